import Derived.Test.YtphnphmbfogmlaaGreatQEByq
import Derived.Test.YtphnphmbfogmlaaGreatQESizE
import Derived.Test.YtphnphmbfogmlaaGreatQEPrLawES
namespace Go.Proofs.YtphnphmbfogmlaaGreat.T
open Go.RowKit Go.PW Go.Proofs.YtphnphmbfogmlaaGreat.Pr
set_option linter.unusedSimpArgs false
set_option linter.unusedVariables false
def XeW : List Int → Int × Int → Int × Int
 | [], a => a
 | v :: q, a => XeW q (if v = 0 then a else (wrap64 (a.1 + 1), wrap64 (a.2 + v)))
def Xp3 (t : Int) : List S56 → Int × Int → Int × Int
 | [], a => a
 | p :: q, a => Xp3 t q (if p.f1 = t then XeW p.f2 a else a)
theorem wn {i : Nat} (h : i ≤ 1000) : wrap64 ((i : Int) + 1) = ((i + 1 : Nat) : Int) := by
 rw [T.wrap_small (by omega) (by omega)]; omega
theorem XrB {l : List Int} {j : Nat} (h : j < l.length) : rd l (j : Int) = l[j] := by simp [rd, List.getD_eq_getElem?_getD, List.getElem?_eq_getElem h]
theorem Xhh {l : List S56} {j : Nat} (h : j < l.length) : Xb l (j : Int) = l[j] := by simp [Xb, List.getD_eq_getElem?_getD, List.getElem?_eq_getElem h]
theorem XrC (D M : List S56) (L : List S76) (s : Int) (d : Bool) (t : Int) (i : Nat) (hm : M.length = 5) (hi : i < 5) (hf : (Xb M (i : Int)).f1 = t) (h3 : (Xb M (i : Int)).f2.length = 3) : ∀ (e j k : Nat) (a : Int × Int), j + e = 3 →
 Xq.l1 (k + 2 * (e + 1)) t a.1 a.2 (i : Int) (j : Int) D M L s d = Xq.l0 k t (XeW ((Xb M (i : Int)).f2.drop j) a).1 (XeW ((Xb M (i : Int)).f2.drop j) a).2 ((i + 1 : Nat) : Int) D M L s d
 | 0, j, k, a, hj => by
  rw [show k + 2 * (0 + 1) = k + 1 + 1 from rfl, Xq.l1, if_pos (by omega), if_pos (by omega), if_pos hf, decide_eq_false (by omega), Xq.j3, if_neg (by simp), List.drop_of_length_le (by omega), wn (by omega)]
  rfl
 | e + 1, j, k, a, hj => by
  have hlt : j < (Xb M (i : Int)).f2.length := by omega
  rw [show k + 2 * (e + 1 + 1) = k + 2 * (e + 1) + 1 + 1 by omega, Xq.l1, if_pos (by omega), if_pos (by omega), if_pos hf, decide_eq_true (show (j : Int) < 3 by omega), Xq.j3, if_pos rfl, if_pos (by omega), if_pos (by omega), if_pos (by omega), if_pos (by omega)]; rw [List.drop_eq_getElem_cons hlt, XeW, ← XrB hlt, wn (by omega)]
  by_cases hz : rd (Xb M (i : Int)).f2 (j : Int) = 0
  ·rw [if_pos hz, if_pos hz]
   exact XrC D M L s d t i hm hi hf h3 e (j + 1) k a (by omega)
  ·rw [if_neg hz, if_neg hz]
   exact XrC D M L s d t i hm hi hf h3 e (j + 1) k (wrap64 (a.1 + 1), wrap64 (a.2 + rd (Xb M (i : Int)).f2 (j : Int))) (by omega)
theorem XrD (D : List S56) {M : List S56} (h : V3 M) (L : List S76) (s : Int) (d : Bool) (t : Int) : ∀ (e i k : Nat) (a : Int × Int), i + e = 5 → 9 * e + 1 ≤ k →
 Xq.l0 k t a.1 a.2 (i : Int) D M L s d = some (Xp3 t (M.drop i) a)
 | 0, i, k + 1, a, hi, _ => by
  rw [Xq.l0, if_neg (by omega), List.drop_of_length_le zb91]
  rfl
 | e + 1, i, k + 1, a, hi, hk => by
  have hlt : i < M.length := by rw [h.len]; omega
  have h3 : (Xb M (i : Int)).f2.length = 3 := h.ok (i : Int) (by omega) (by omega); rw [Xq.l0, if_pos (by omega), List.drop_eq_getElem_cons hlt, Xp3, ← Xhh hlt]
  by_cases hf : (Xb M (i : Int)).f1 = t
  ·obtain ⟨m, rfl⟩ : ∃ m, k = m + 2 * (3 + 1) := ⟨k - 8, by omega⟩
   rw [if_pos hf]; have h1 := XrC D M L s d t i h.len (by omega) hf h3 3 0 m a (by omega); rw [List.drop_zero] at h1; exact h1.trans (XrD D h L s d t e (i + 1) m _ (by omega) (by omega))
  ·obtain ⟨m, rfl⟩ : ∃ m, k = m + 1 + 1 := ⟨k - 2, by omega⟩
   rw [if_neg hf, Xq.l1, if_pos (by omega), if_pos (by omega), if_neg hf, Xq.j3, if_neg (by simp), wn (by omega)]; exact XrD D h L s d t e (i + 1) m a (by omega) (by omega)
theorem XnK (M : List S56) (X t : Int) (i : Nat) (hi : i < 5) (l : List Int) (hl : l.length ≤ 1000) (A B : Int) (C : List Int) : ∀ (e j k : Nat) (a : Int × Int), j + e = l.length →
 Xw.l1 (k + (e + 1)) t a.1 a.2 M X (i : Int) l (l.length : Int) (j : Int) A B C = Xw.l0 k t (if B = t then XeW (l.drop j) a else a).1 (if B = t then XeW (l.drop j) a else a).2 M X ((i + 1 : Nat) : Int)
 | 0, j, k, a, hj => by
  rw [show k + (0 + 1) = k + 1 from rfl, Xw.l1, if_neg (by omega), List.drop_of_length_le (by omega), wn (by omega), XeW, ite_self]
 | e + 1, j, k, a, hj => by
  have hlt : j < l.length := by omega
  rw [show k + (e + 1 + 1) = k + (e + 1) + 1 from rfl, Xw.l1, if_pos (by omega), if_pos (by omega), if_pos (by omega), wn (by omega)]
  by_cases hb : B = t
  ·rw [if_pos hb, if_pos hb, List.drop_eq_getElem_cons hlt, XeW, ← XrB hlt]
   by_cases hz : rd l (j : Int) = 0
   ·rw [if_pos hz, if_pos hz]
    have := XnK M X t i hi l hl A B C e (j + 1) k a (by omega); rw [if_pos hb] at this; exact this
   ·rw [if_neg hz, if_neg hz]
    have := XnK M X t i hi l hl A B C e (j + 1) k (wrap64 (a.1 + 1), wrap64 (a.2 + rd l (j : Int))) (by omega); rw [if_pos hb] at this; exact this
  ·rw [if_neg hb, if_neg hb]
   have := XnK M X t i hi l hl A B C e (j + 1) k a (by omega); rw [if_neg hb] at this; exact this
theorem XwQ {M : List S56} (h : V3 M) (t : Int) : ∀ (e i k : Nat) (a : Int × Int), i + e = 5 → 5 * e + 1 ≤ k →
 Xw.l0 k t a.1 a.2 M (M.length : Int) (i : Int) = some (Xp3 t (M.drop i) a)
 | 0, i, k + 1, a, hi, _ => by
  rw [Xw.l0, if_neg zb91, List.drop_of_length_le zb91]
  rfl
 | e + 1, i, k + 1, a, hi, hk => by
  have hlt : i < M.length := by rw [h.len]; omega
  have h3 : (Xb M (i : Int)).f2.length = 3 := h.ok (i : Int) (by omega) (by omega)
  obtain ⟨m, rfl⟩ : ∃ m, k = m + (3 + 1) := ⟨k - 4, by omega⟩
  rw [Xw.l0, if_pos (by omega), if_pos (by omega), if_pos (by omega), List.drop_eq_getElem_cons hlt, Xp3, ← Xhh hlt]; have h1 := XnK M (M.length : Int) t i (by omega) (Xb M (i : Int)).f2 (by omega) (Xb M (i : Int)).f0 (Xb M (i : Int)).f1 (Xb M (i : Int)).f2 3 0 m a (by omega); rw [List.drop_zero] at h1; exact h1.trans (XwQ h t e (i + 1) m _ (by omega) (by omega))
def XrE (D M : List Pg) (L : List Rc) (s : Int) (d : Bool) (t : Int) : Int × Int := if J7 D M L s d = true then (if inB t 1 3 = true then Xp3 t M (0, 0) else (0, 0)) else (0, 0)
theorem XnL {D M : List Pg} {L : List Rc} {s : Int} {d : Bool} (h : J7 D M L s d = true) : V3 M := by
 by_cases hm : JG M = true
 ·exact PG hm
 ·have hh : DR D M L s = false := by
   unfold DR
   rw [Bool.eq_false_iff.mpr hm]
   simp
  rw [VX hh] at h; exact absurd h (by simp)
theorem XeX {D M : List S73} {L : List S78} (F : Fit D M L) (s : Int) (d : Bool) (t : Int) (k : Nat) (hk : 16777216 < k) : Xq.f k (D.map cp) (M.map cp) (L.map cv) s d t = some (XrE (D.map cp) (M.map cp) (L.map cv) s d t) := by
 unfold Xq.f XrE
 rw [XeK F s d k hk, Option.bind_some]
 obtain ⟨j, rfl⟩ : ∃ j, k = j + 1 := ⟨k - 1, by omega⟩
 by_cases h : J7 (D.map cp) (M.map cp) (L.map cv) s d = true
 ·rw [if_pos h, if_pos h, Gl, Option.bind_some, Xq.j0]
  by_cases hp : inB t 1 3 = true
  ·rw [hp, if_neg (by simp), if_pos rfl]
   exact XrD (D.map cp) (XnL h) (L.map cv) s d t 5 0 j (0, 0) (by omega) (by omega)
  ·rw [Bool.eq_false_iff.mpr hp, if_pos (by simp), if_neg (by simp)]
 ·rw [if_neg h, if_neg h, Xq.j0, if_pos rfl]
theorem XeY (D M : List Pg) (L : List Rc) (s : Int) (d : Bool) (t : Int) (k : Nat) (hk : 100 ≤ k) : Xw.f k D M L s d t = some (XrE D M L s d t) := by
 unfold Xw.f XrE Xx.f
 rw [Option.bind_some]
 obtain ⟨j, rfl⟩ : ∃ j, k = j + 1 := ⟨k - 1, by omega⟩
 by_cases h : J7 D M L s d = true
 ·rw [if_pos h, if_pos h, show Fj.f t 1 3 = some (inB t 1 3) from Gl t 1 3, Option.bind_some, Xw.j0]
  by_cases hp : inB t 1 3 = true
  ·rw [hp, if_neg (by simp), if_pos rfl]
   exact XwQ (XnL h) t 5 0 j (0, 0) (by omega) (by omega)
  ·rw [Bool.eq_false_iff.mpr hp, if_pos (by simp), if_neg (by simp)]
 ·rw [if_neg h, if_neg h, Xw.j0, if_pos rfl]
theorem Kb (D M : List S73) (L : List S78) (s : Int) (d : Bool) (t : Int) (H : Xna D M L) : ∃ k, XA.f k D M L s d t = some true := by
 obtain ⟨k, hk⟩ : ∃ k : Nat, D.length + M.length + 16777217 < k := ⟨_, Nat.lt_succ_self _⟩
 refine ⟨k, ?_⟩
 unfold XA.f
 obtain ⟨r, e, h⟩ := LQ D M L s d H.d H.dv H.m H.mv H.l k (by omega); rw [e, Option.bind_some]
 rcases h with h | ⟨h, F⟩
 ·rw [if_pos h]
 rw [if_neg (by omega)]
 obtain ⟨b, hb⟩ : ∃ b, XrE (D.map cp) (M.map cp) (L.map cv) s d t = b := ⟨_, rfl⟩
 have hs := XeX F s d t k (by omega); have hi := XeY (D.map cp) (M.map cp) (L.map cv) s d t k (by omega); rw [hb] at hs hi; simp only [Wm F s d k (by omega), Option.bind_some, hs, hi, if_true, bne_self_eq_false]
 obtain ⟨j, rfl⟩ : ∃ j, k = j + 1 := ⟨k - 1, by omega⟩
 rw [XA.j0, if_neg (by simp)]; simp only [Wm F s d j (by omega), Option.bind_some, LU F s d j (by omega), if_true]
theorem WK (A0 : Option Addr) (D : List S73) (c0 : Nat) (A1 : Option Addr) (M : List S73) (c1 : Nat) (A2 : Option Addr) (L : List S78) (c2 : Nat) (s : Int) (d : Bool) (p : Int) (w : World) (e0 : D.length ≤ c0 ∧ Kd.C k73 w A0 D.length D) (e1 : M.length ≤ c1 ∧ Kd.C k73 w A1 M.length M) (e2 : L.length ≤ c2 ∧ Kd.C k78 w A2 L.length L) (g : I64 p) :
 Calls Tryz.prog 4 #[.agg #[.slice A0 D.length c0, .slice A1 M.length c1, .slice A2 L.length c2, .int .i64 s, .bool d], .int .i64 p] w fun e w' => e = .returned (.bool true) ∧ Below w.heap.size w w' := by
 obtain ⟨k, h⟩ := Kb D M L s d p (QF e0 e1 e2); exact XA.calls k A0 c0 D A1 c1 M A2 c2 L s d p true w e0.2 e0.1 e1.2 e1.1 e2.2 e2.1 h ⟨rfl⟩
end Go.Proofs.YtphnphmbfogmlaaGreat.T
