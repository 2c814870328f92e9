import Derived.Test.YtphnphmbfogmlaaGreatQFByq
import Derived.Test.YtphnphmbfogmlaaGreatQFPrK
import Derived.Test.YtphnphmbfogmlaaGreatQFPrInts
import Derived.Test.YtphnphmbfogmlaaGreatQFRec
import Derived.Test.YtphnphmbfogmlaaGreatQFMarkE
import Derived.Test.YtphnphmbfogmlaaGreatQFOpen
import Derived.Test.YtphnphmbfogmlaaGreatQFPrHP
import Derived.Test.YtphnphmbfogmlaaGreatQFPrLogA
import Derived.Test.YtphnphmbfogmlaaGreatQFPrLC2
namespace Go.Proofs.YtphnphmbfogmlaaGreat.T
open Go.RowKit Go.PW Go.WideShapes Go.ChangeShapes Go.Deep Go.Proofs.YtphnphmbfogmlaaGreat.Pr
set_option linter.unusedVariables false
variable {P : Program}
def Xss (x : S78) : Prop := I64 x.f0 ∧ I64 x.f1 ∧ I64 x.f2 ∧ I64 x.f3 ∧ I64 x.f4 ∧ I64 x.f5 ∧ I64 x.f6 ∧ I64 x.f7
theorem XkV {t : TypeId} {fs : Array Field} (ht : P.underlying t = some (.struct fs)) (hone : oneCellFields P fs = true) (hC : P.cellsOf t = fs.size) (hn : fs.size = 8) (hall : XjO P fs = true) :
 MS P t k78 Xss := by
 intro H enc w base sp held fuel cs x h; obtain ⟨xs, hl, hcs, hg⟩ := PZ ht hone hC (Xf0 hall) h; rw [hn] at hl
 match xs, hl with
 | [a0, a1, a2, a3, a4, a5, a6, a7], _ =>
  refine ⟨⟨a0, a1, a2, a3, a4, a5, a6, a7⟩, ?_, ?_⟩
  ·subst hcs
   exact Xux w ⟨a0, a1, a2, a3, a4, a5, a6, a7⟩
  ·exact ⟨hg _ (by simp), hg _ (by simp), hg _ (by simp), hg _ (by simp), hg _ (by simp), hg _ (by simp), hg _ (by simp), hg _ (by simp)⟩
end Go.Proofs.YtphnphmbfogmlaaGreat.T
namespace Go.Proofs.YtphnphmbfogmlaaGreat.T
open Go.RowKit Go.PW Go.WideShapes Go.ChangeShapes Go.Deep Go.Proofs.YtphnphmbfogmlaaGreat.Pr
set_option linter.unusedVariables false
theorem Xdt : MS Tryz.prog 73 k73 (fun _ => True) := by
 intro H enc w base sp held fuel cs x h; obtain ⟨⟨a, b, l⟩, hk, _⟩ := Xf1 (P := Tryz.prog) (t := 73) (ti := 3) (ts := 37) (e := 3) zb6 Tryz.underlying3 Tryz.underlying37 zb6 h; exact ⟨⟨a, b, l⟩, hk, trivial⟩
set_option maxRecDepth 100000 in
theorem XmU : MS Tryz.prog 78 k78 Xss := fun h => XkV Tryz.underlying78 zb6 zb6 (by rfl) zb6 h
set_option maxRecDepth 100000 in
theorem Tu {H : Type} {enc : TypeId × Value → H} {w : World} {base b0 : Nat} {r : Reach} {sp : Nat → Bool} {held : Bool} {v : Value} {d : DataW H} {p : List MemPlace}
 (hv : Value.okWide Tryz.prog w r b0 25 v) (h : DataW.Trod enc Tryz.prog w base sp held 25 v d p) :
 ∃ (A0 : Option Addr) (D : List S73) (c0 : Nat) (A1 : Option Addr) (M : List S73) (c1 : Nat) (A2 : Option Addr) (L : List S78) (c2 : Nat) (s : Int) (b : Bool), v = .agg #[.slice A0 D.length c0, .slice A1 M.length c1, .slice A2 L.length c2, .int .i64 s, .bool b] ∧
  (D.length ≤ c0 ∧ Kd.C k73 w A0 D.length D) ∧ (M.length ≤ c1 ∧ Kd.C k73 w A1 M.length M) ∧ (L.length ≤ c2 ∧ Kd.C k78 w A2 L.length L) ∧ I64 s := by
 obtain ⟨cs, rfl, hsz⟩ := okWide_struct Tryz.underlying25 hv; obtain ⟨fuel, hf⟩ := h; obtain ⟨xs, n, _, _, hlen, hxl, hg⟩ := DataW.trod_struct Tryz.underlying25 hf; have hx : xs.length = 5 := hxl; have e0 := hg 0 _ rfl; have e1 := hg 1 _ rfl; have e2 := hg 2 _ rfl; have e3 := hg 3 _ rfl; have e4 := hg 4 _ rfl; rw [List.getElem?_eq_getElem (by omega)] at e0 e1 e2 e3 e4; obtain ⟨D, ⟨A0, c0, k0, l0, C0⟩, _⟩ := UL (d := k73) Tryz.underlying22 zb6 Xdt e0; obtain ⟨M, ⟨A1, c1, k1, l1, C1⟩, _⟩ := UL (d := k73) Tryz.underlying22 zb6 Xdt e1; obtain ⟨L, ⟨A2, c2, k2, l2, C2⟩, _⟩ := UL (d := k78) Tryz.underlying23 zb6 XmU e2; obtain ⟨s, k3, gs⟩ := Su Tryz.underlying3 e3; obtain ⟨b, k4, _⟩ := Xfz Tryz.underlying4 e4; refine ⟨A0, D, c0, A1, M, c1, A2, L, c2, s, b, ?_, ⟨l0, C0⟩, ⟨l1, C1⟩, ⟨l2, C2⟩, gs⟩
 have m0 : Tryz.prog.cellsOf 22 = 1 := by kernel_rfl
 have m2 : Tryz.prog.cellsOf 23 = 1 := by kernel_rfl
 have m3 : Tryz.prog.cellsOf 3 = 1 := by kernel_rfl
 have m4 : Tryz.prog.cellsOf 4 = 1 := by kernel_rfl
 have m : Tryz.prog.cellsOf 25 = 5 := by kernel_rfl
 rw [m] at hlen; obtain ⟨l⟩ := cs
 change (l.drop 0).take (Tryz.prog.cellsOf 22) = _ at k0
 change (l.drop 1).take (Tryz.prog.cellsOf 22) = _ at k1
 change (l.drop 2).take (Tryz.prog.cellsOf 23) = _ at k2
 change (l.drop 3).take (Tryz.prog.cellsOf 3) = _ at k3
 change (l.drop 4).take (Tryz.prog.cellsOf 4) = _ at k4
 change l.length = 5 at hlen
 rw [m0] at k0 k1; rw [m2] at k2; rw [m3] at k3; rw [m4] at k4; clear hg hf hsz hv e0 e1 e2 e3 e4
 match l, hlen with
 | [x0, x1, x2, x3, x4], _ =>
  have q0 : x0 = _ := (List.cons.inj k0).1; have q1 : x1 = _ := (List.cons.inj k1).1; have q2 : x2 = _ := (List.cons.inj k2).1; have q3 : x3 = _ := (List.cons.inj k3).1; have q4 : x4 = _ := (List.cons.inj k4).1; rw [q0, q1, q2, q3, q4]
end Go.Proofs.YtphnphmbfogmlaaGreat.T
namespace Go.Proofs.YtphnphmbfogmlaaGreat.T
open Go.RowKit Go.PW Go.Proofs.YtphnphmbfogmlaaGreat.Pr
set_option linter.unusedSimpArgs false
set_option linter.unusedVariables false
theorem Xut (l : List Int) (i j : Nat) (x : Int) (hi : i < l.length) : rd (l.set i x) (j : Int) = if i = j then x else rd l (j : Int) := by
 unfold rd
 simp only [Int.toNat_natCast, List.getD_eq_getElem?_getD, List.getElem?_set]
 by_cases h : i = j
 ·subst h
  simp [hi]
 ·simp [h]
theorem Ex : ∀ (d i k : Nat) (x : Int) (l : List Int), i + d = l.length → d < k → 0 ≤ x → x + (d : Int) ≤ 4611686018427387904 → l.length ≤ 4611686018427387904 → ∃ l', YT.l0 k l x i = some (x + (d : Int), l') ∧ l'.length = l.length ∧ ∀ j : Nat, rd l' (j : Int) = if i ≤ j ∧ j < l.length then x + ((j : Int) - (i : Int)) else rd l (j : Int)
 | 0, i, k + 1, x, l, hi, _, _, _, _ => by
  rw [YT.l0, if_neg (by omega)]
  exact ⟨l, by simp, rfl, fun j => by rw [if_neg (by omega)]⟩
 | d + 1, i, k + 1, x, l, hi, hk, hx, hs, hl => by
  have w1 : wrap64 (x + 1) = x + 1 := T.wrap_small (by omega) (by omega)
  have wi : wrap64 ((i : Int) + 1) = ((i + 1 : Nat) : Int) := by rw [T.wrap_small (by omega) (by omega)]; omega
  rw [YT.l0, if_pos (by omega), if_pos (by omega), w1, wi, Int.toNat_natCast]; obtain ⟨l', e1, e2, e3⟩ := Ex d (i + 1) k (x + 1) (l.set i x) (by rw [List.length_set]; omega) (by omega) (by omega) (by omega) (by rw [List.length_set]; exact hl); refine ⟨l', by rw [e1]; congr 2; omega, by rw [e2, List.length_set], fun j => ?_⟩; rw [e3 j, List.length_set, Xut _ _ _ _ (by omega)]
  by_cases h : i = j
  ·subst h
   rw [if_neg (by omega), if_pos rfl, if_pos (by omega)]; omega
  ·rw [if_neg h]
   by_cases h2 : i + 1 ≤ j ∧ j < l.length
   ·rw [if_pos h2, if_pos (by omega)]
    omega
   ·rw [if_neg h2, if_neg (by omega)]
theorem Ey (l : List Int) (a : Int) (h0 : 0 ≤ a) (h1 : a ≤ 4611686018427387904) (hl : l.length ≤ 4398046511104) (hr : ∀ j : Nat, j < l.length → rd l (j : Int) = a + (j : Int)) : ∀ (d i k : Nat), i + d = l.length → d < k → YF.l0 k l (a + (i : Int)) i = some (a + (l.length : Int))
 | 0, i, k + 1, hi, _ => by
  rw [YF.l0, if_neg (by omega)]
  congr 1
  omega
 | d + 1, i, k + 1, hi, hk => by
  have w1 : wrap64 (a + (i : Int) + 1) = a + ((i + 1 : Nat) : Int) := by rw [T.wrap_small (by omega) (by omega)]; omega
  have wi : wrap64 ((i : Int) + 1) = ((i + 1 : Nat) : Int) := by rw [T.wrap_small (by omega) (by omega)]; omega
  rw [YF.l0, if_pos (by omega), if_pos (by omega), if_pos (hr i (by omega)), w1, wi]; exact Ey l a h0 h1 hl hr d (i + 1) k (by omega) (by omega)
theorem Xdq (a : List Int) (hm : a.length ≤ 9223372036854775807) (k : Nat) (hk : a.length < k) : XK.f k a a = some true := by
 have h := KA (XK.mono a a) (by simpa using Xc1 a a hm) (k - (a.length + 1)); rw [show a.length + 1 + (k - (a.length + 1)) = k by omega] at h; exact h
theorem PS (t : Int) : ∀ l : List S76, 0 ≤ N8 t l ∧ N8 t l ≤ (l.length : Int)
 | [] => by simp [N8]
 | x :: r => by
  have ih := PS t r
  unfold N8
  split
  ·split <;> simp <;> omega
  ·simp
   omega
theorem Uj (l : List S76) (t : Int) : 0 ≤ lastB l t := (PS t l.reverse).1
theorem Dj (l : List S76) (t : Int) : lastB l t ≤ (l.length : Int) := by
 have h := (PS t l.reverse).2; rw [List.length_reverse] at h; exact h
theorem DV {l : List S76} (h : YP l = true) (i : Nat) (hi : i < l.length) : 0 ≤ (Xa l (i : Int)).f6 ∧ (Xa l (i : Int)).f6 ≤ (i : Int) := by
 unfold YP at h
 simp only [Bool.and_eq_true, List.all_eq_true] at h; have h2 := h.2 i (by simpa using hi)
 unfold Jt at h2
 simp only [Bool.and_eq_true, beq_iff_eq] at h2; have e := h2.1.1.2; rw [e]; have b := Dj (l.take i) (Xa l (i : Int)).f1; rw [List.length_take] at b; exact ⟨Uj _ _, by omega⟩
theorem ZK {l : List S76} (h : YP l = true) : l.length ≤ 150 := by
 unfold YP at h
 simp only [Bool.and_eq_true, decide_eq_true_eq] at h; exact h.1
def chainB (l : List S76) : Nat → Int → List Int
 | 0, _ => []
 | n + 1, x => if 0 < x then x :: chainB l n (Xa l (x - 1)).f6 else []
theorem WG (l : List S76) : ∀ n x, (chainB l n x).length ≤ n
 | 0, _ => by simp [chainB]
 | n + 1, x => by
  have := WG l n (Xa l (x - 1)).f6
  unfold chainB
  split <;> simp <;> omega
end Go.Proofs.YtphnphmbfogmlaaGreat.T
namespace Go.Proofs.YtphnphmbfogmlaaGreat.T
open Go.RowKit Go.PW Go.Proofs.YtphnphmbfogmlaaGreat.Pr
set_option linter.unusedSimpArgs false
set_option linter.unusedVariables false
theorem E5 (l : List Int) (hl : l.length ≤ 1048576) (a : Int) (h0 : 0 ≤ a) (h1 : a ≤ 4398046511104) (k : Nat) (hk : l.length < k) : ∃ l', YT.f k l a = some (a + (l.length : Int), l') ∧ l'.length = l.length ∧ YF.f k l' a = some (a + (l.length : Int)) := by
 obtain ⟨l', e1, e2, e3⟩ := Ex l.length 0 k a l (by omega) hk (by omega) (by omega) (by omega); refine ⟨l', e1, e2, ?_⟩
 unfold YF.f
 have h := Ey l' a (by omega) (by omega) (by omega) (fun j hj => by rw [e3 j, if_pos (by omega)]; omega) l'.length 0 k (by omega) (by omega); rw [e2] at h
 simpa using h
theorem Xdr (l : List S56) (i j : Nat) (x : S56) (hi : i < l.length) : Xb (l.set i x) (j : Int) = if i = j then x else Xb l (j : Int) := by
 unfold Xb
 simp only [Int.toNat_natCast, List.getD_eq_getElem?_getD, List.getElem?_set]
 by_cases h : i = j
 ·subst h
  simp [hi]
 ·simp [h]
theorem Tq : ∀ (d i k : Nat) (x : Int) (l : List S56), i + d = l.length → d + 1048576 < k → 0 ≤ x → x + 1048578 * (d : Int) ≤ 4398046511104 → l.length ≤ 1048576 → (∀ p ∈ l, p.f2.length ≤ 1048576) →
 ∃ X l', XW.l0 k l x i = some (X, l') ∧ x ≤ X ∧ X ≤ x + 1048578 * (d : Int) ∧ l'.length = l.length ∧ (∀ j : Nat, j < i → Xb l' (j : Int) = Xb l (j : Int)) ∧ YS.l0 k l' x i = some X
 | 0, i, k + 1, x, l, hi, _, _, _, _, _ => by
  refine ⟨x, l, ?_, by omega, by omega, rfl, fun _ _ => rfl, ?_⟩
  ·rw [XW.l0, if_neg (by omega)]
  ·rw [YS.l0, if_neg (by omega)]
 | d + 1, i, k + 1, x, l, hi, hk, hx, hs, hl, hv => by
  have hlt : i < l.length := by omega
  have hm : Xb l (i : Int) ∈ l := by
   have e : Xb l (i : Int) = l[i] := by simp [Xb, List.getD_eq_getElem?_getD, List.getElem?_eq_getElem hlt]
   rw [e]; exact List.getElem_mem hlt
  have hq := hv _ hm; have w1 : wrap64 (x + 1) = x + 1 := T.wrap_small (by omega) (by omega)
  have w2 : wrap64 (x + 1 + 1) = x + 2 := by rw [T.wrap_small (by omega) (by omega)]; omega
  have wi : wrap64 ((i : Int) + 1) = ((i + 1 : Nat) : Int) := by rw [T.wrap_small (by omega) (by omega)]; omega
  obtain ⟨m, e1, e2, e3⟩ := E5 (Xb l (i : Int)).f2 hq (x + 2) (by omega) (by omega) k (by omega)
  obtain ⟨X, l', f1, f2, f3, f4, f5, f6⟩ := Tq d (i + 1) k (x + 2 + ((Xb l (i : Int)).f2.length : Int)) (l.set i ⟨x, x + 1, m⟩) (by rw [List.length_set]; omega) (by omega) (by omega) (by omega) (by rw [List.length_set]; exact hl) (fun p hp => by
   rcases List.mem_or_eq_of_mem_set hp with h | h
   ·exact hv p h
   ·subst h
    show m.length ≤ _
    omega)
  have hi' : Xb l' (i : Int) = ⟨x, x + 1, m⟩ := by rw [f5 i (by omega), Xdr _ _ _ _ hlt, if_pos rfl]
  refine ⟨X, l', ?_, by omega, by omega, by rw [f4, List.length_set], fun j hj => by rw [f5 j (by omega), Xdr _ _ _ _ hlt, if_neg (by omega)], ?_⟩
  ·rw [XW.l0, if_pos (by omega), if_pos (by omega), w1, w2, wi, Int.toNat_natCast, e1, Option.bind_some]
   exact f1
  ·have hl' : l'.length = l.length := by rw [f4, List.length_set]
   rw [YS.l0, if_pos (by omega), if_pos (by omega), hi', if_pos rfl, w1, if_pos rfl, w2, wi]
   show (YF.f k m (x + 2)).bind _ = _
   rw [e3, Option.bind_some, if_neg (by omega)]; exact f6
theorem NK (l : List S56) (hl : l.length ≤ 1048576) (hv : ∀ p ∈ l, p.f2.length ≤ 1048576) (a : Int) (h0 : 0 ≤ a) (h1 : a ≤ 2199023255552) (k : Nat) (hk : 2097152 < k) :
 ∃ X l', XW.f k l a = some (X, l') ∧ a ≤ X ∧ X ≤ a + 1099513724928 ∧ l'.length = l.length ∧ YS.f k l' a = some X := by
 obtain ⟨X, l', f1, f2, f3, f4, _, f6⟩ := Tq l.length 0 k a l (by omega) (by omega) h0 (by omega) hl hv; exact ⟨X, l', f1, f2, by omega, f4, f6⟩
theorem Qw (X Y : List S56) (Z : List S76) (hX : X.length ≤ 1048576) (hXv : ∀ p ∈ X, p.f2.length ≤ 1048576) (hY : Y.length ≤ 1048576) (hYv : ∀ p ∈ Y, p.f2.length ≤ 1048576) (hZ : Z.length ≤ 1048576) (k : Nat) (hk : 2097152 < k) :
 ∃ a0 a1 m0 m1, XW.f k X 1 = some (a0, m0) ∧ XW.f k Y a0 = some (a1, m1) ∧ (0 ≤ a1 ∧ a1 + 8 * (Z.length : Int) ≤ 4398046511104) := by
 obtain ⟨a0, m0, e0, g0, g1, _, _⟩ := NK X hX hXv 1 (by omega) (by omega) k hk; obtain ⟨a1, m1, e1, g2, g3, _, _⟩ := NK Y hY hYv a0 (by omega) (by omega) k hk; exact ⟨a0, a1, m0, m1, e0, e1, by omega, by omega⟩
end Go.Proofs.YtphnphmbfogmlaaGreat.T
namespace Go.Proofs.YtphnphmbfogmlaaGreat.T
open Go.RowKit Go.PW Go.Proofs.YtphnphmbfogmlaaGreat.Pr
set_option linter.unusedSimpArgs false
set_option linter.unusedVariables false
abbrev Rc := S76
abbrev rc (l : List Rc) (i : Int) : Rc := Xa l i
theorem XtV (l : List Rc) (x : Rc) (i : Int) (h0 : 0 ≤ i) (h : i < (l.length : Int)) : rc (l ++ [x]) i = rc l i := by
 unfold rc Xa
 rw [List.getD_eq_getElem?_getD, List.getD_eq_getElem?_getD, List.getElem?_append_left (by omega)]
theorem XtW (l : List Rc) (x : Rc) : rc (l ++ [x]) (l.length : Int) = x := by
 unfold rc Xa
 rw [List.getD_eq_getElem?_getD, List.getElem?_append_right (by simp)]
 simp
theorem RN (l : List Rc) (n : Nat) (i : Int) (h0 : 0 ≤ i) (h : i < (n : Int)) : rc (l.take n) i = rc l i := by
 unfold rc Xa
 rw [List.getD_eq_getElem?_getD, List.getD_eq_getElem?_getD, List.getElem?_take_of_lt (by omega)]
structure OKr (l : List Rc) (i : Nat) : Prop where
 tx : 1 ≤ (rc l i).f1 ∧ (rc l i).f1 ≤ 3
 page : 0 ≤ (rc l i).f2 ∧ (rc l i).f2 < 5
 slot : -1 ≤ (rc l i).f3 ∧ (rc l i).f3 < 3
 prev : (rc l i).f6 = lastB (l.take i) (rc l i).f1
 next : 0 ≤ (rc l i).f7 ∧ (rc l i).f7 ≤ i
 ntx : 0 < (rc l i).f7 → (rc l ((rc l i).f7 - 1)).f1 = (rc l i).f1
def Good (l : List Rc) : Prop := ∀ i : Nat, i < l.length → OKr l i
theorem OKr.DV {l : List Rc} {i : Nat} (h : OKr l i) (hi : i < l.length) : 0 ≤ (rc l i).f6 ∧ (rc l i).f6 ≤ i := by
 rw [h.prev]; have := Dj (l.take i) (rc l i).f1; rw [List.length_take, Nat.min_eq_left (by omega)] at this; exact ⟨Uj _ _, this⟩
theorem OKr.cut {l : List Rc} {i n : Nat} (h : OKr l i) (hi : i < n) : OKr (l.take n) i := by
 have e : rc (l.take n) i = rc l i := RN l n i (by omega) (by omega); refine ⟨by rw [e]; exact h.tx, by rw [e]; exact h.page, by rw [e]; exact h.slot, by rw [e, List.take_take, Nat.min_eq_left (by omega)]; exact h.prev, by rw [e]; exact h.next, ?_⟩; rw [e]; intro h0; have hn := h.next; rw [RN l n _ (by omega) (by omega)]; exact h.ntx h0
theorem Good.take {l : List Rc} (h : Good l) (n : Nat) : Good (l.take n) := fun i hi => by
 rw [List.length_take] at hi; exact (h i (by omega)).cut (by omega)
theorem XiH (t : Int) : ∀ l : List Rc, 0 < N8 t l → (rc l.reverse (N8 t l - 1)).f1 = t
 | [], h => by simp [N8] at h
 | x :: l, h => by
  rw [List.reverse_cons]
  unfold N8 at h ⊢
  by_cases h1 : x.f1 = t
  ·rw [if_pos h1] at h ⊢
   split at h
   ·omega
   ·rename_i hk
    rw [if_neg hk]; have := XtW l.reverse x; rw [List.length_reverse] at this; rw [show ((l.length : Int) + 1 - 1) = (l.length : Int) by omega, this]; exact h1
  ·rw [if_neg h1] at h ⊢
   have hb := PS t l; rw [XtV _ _ _ (by omega) (by rw [List.length_reverse]; omega)]; exact XiH t l h
theorem XmB {l : List Rc} {t : Int} (h : 0 < lastB l t) : (rc l (lastB l t - 1)).f1 = t := by
 have := XiH t l.reverse h; rw [List.reverse_reverse] at this; exact this
theorem OKr.ptx {l : List Rc} {i : Nat} (h : OKr l i) (hi : i < l.length) (h0 : 0 < (rc l i).f6) : (rc l ((rc l i).f6 - 1)).f1 = (rc l i).f1 := by
 have hb := h.DV hi; have e := h.prev; have := XmB (l := l.take i) (t := (rc l i).f1) (by rw [← e]; exact h0); rw [← e, RN l i _ (by omega) (by omega)] at this; exact this
def Zx (l : List Rc) : Nat → Int → Int
 | 0, _ => 0
 | n + 1, a => if 0 < a then (if (rc l (a - 1)).f0 = 1 ∨ (rc l (a - 1)).f0 = 2 then a else if (rc l (a - 1)).f0 = 6 then Zx l n (rc l (a - 1)).f7 else Zx l n (rc l (a - 1)).f6) else 0
theorem Nu {a : Int} (h : 0 < a) : ∃ j : Nat, a = (j : Int) + 1 := ⟨(a - 1).toNat, by omega⟩
theorem MB {l : List Rc} (g : Good l) : ∀ (n m : Nat) (a : Int), a ≤ (n : Int) → a ≤ (m : Int) → a ≤ (l.length : Int) → Zx l n a = Zx l m a
 | 0, 0, _, _, _, _ => rfl
 | 0, m + 1, a, h, _, _ => by
  rw [Zx, Zx, if_neg (by omega)]
 | n + 1, 0, a, _, h, _ => by
  rw [Zx, Zx, if_neg (by omega)]
 | n + 1, m + 1, a, h1, h2, hl => by
  rw [Zx, Zx]
  by_cases ha : 0 < a
  ·obtain ⟨j, rfl⟩ := Nu ha
   rw [show (j : Int) + 1 - 1 = (j : Int) by omega]; have hp := (g j (by omega)).DV (by omega); have hn := (g j (by omega)).next; rw [if_pos ha, if_pos ha, MB g n m _ (by omega) (by omega) (by omega), MB g n m (rc l (j : Int)).f6 (by omega) (by omega) (by omega)]
  ·rw [if_neg ha, if_neg ha]
theorem VB {l : List Rc} (g : Good l) : ∀ (n : Nat) (a : Int) (t : Int), a ≤ (l.length : Int) → (0 < a → (rc l (a - 1)).f1 = t) → 0 ≤ Zx l n a ∧ Zx l n a ≤ max a 0 ∧ (0 < Zx l n a → (rc l (Zx l n a - 1)).f1 = t ∧ ((rc l (Zx l n a - 1)).f0 = 1 ∨ (rc l (Zx l n a - 1)).f0 = 2))
 | 0, a, t, _, _ => by
  refine ⟨by simp [Zx], by rw [Zx]; omega, fun h => ?_⟩
  simp [Zx] at h
 | n + 1, a, t, hl, ht => by
  rw [Zx]
  by_cases ha : 0 < a
  ·obtain ⟨j, rfl⟩ := Nu ha
   have ht' := ht ha; rw [show (j : Int) + 1 - 1 = (j : Int) by omega] at ht' ⊢; have o := g j (by omega); have hp := o.DV (by omega); have hn := o.next; rw [if_pos ha]
   by_cases hk : (rc l (j : Int)).f0 = 1 ∨ (rc l (j : Int)).f0 = 2
   ·rw [if_pos hk]
    refine ⟨by omega, by omega, fun _ => ?_⟩; rw [show (j : Int) + 1 - 1 = (j : Int) by omega]; exact ⟨ht', hk⟩
   ·rw [if_neg hk]
    by_cases h6 : (rc l (j : Int)).f0 = 6
    ·rw [if_pos h6]
     have ih := VB g n (rc l (j : Int)).f7 t (by omega) (fun h => (o.ntx h).trans ht'); exact ⟨ih.1, by omega, ih.2.2⟩
    ·rw [if_neg h6]
     have ih := VB g n (rc l (j : Int)).f6 t (by omega) (fun h => (o.ptx (by omega) h).trans ht'); exact ⟨ih.1, by omega, ih.2.2⟩
  ·rw [if_neg ha]
   exact ⟨by omega, by omega, fun h => by omega⟩
def SB (l : List Rc) : Nat → Int → Nat
 | 0, _ => 0
 | n + 1, a => if 0 < Zx l (n + 1) a then SB l n (rc l (Zx l (n + 1) a - 1)).f6 + 1 else 0
theorem Mh {l : List Rc} (g : Good l) {n : Nat} {a : Int} (hl : a ≤ (l.length : Int)) (h : 0 < Zx l n a) : 0 ≤ (rc l (Zx l n a - 1)).f6 ∧ (rc l (Zx l n a - 1)).f6 < a ∧ Zx l n a ≤ a := by
 have b := VB g n a (rc l (a - 1)).f1 hl (fun _ => rfl)
 have ha : 0 < a := by omega
 obtain ⟨j, hj⟩ := Nu h; rw [hj] at b ⊢; rw [show (j : Int) + 1 - 1 = (j : Int) by omega]; have hp := (g j (by omega)).DV (by omega); omega
def PO (l : List Rc) (t : Int) : Nat := if 0 < lastB l t then SB l l.length (lastB l t) + 1 else 0
def Uu (l : List Rc) : Nat := PO l 1 + PO l 2 + PO l 3
def Fits (l : List Rc) : Prop := ∀ n : Nat, n ≤ l.length → n + Uu (l.take n) ≤ 150
def Xfn (l : List Rc) : Prop := Good l ∧ Fits l
theorem Xfn.take {l : List Rc} (h : Xfn l) (n : Nat) : Xfn (l.take n) := by
 refine ⟨h.1.take n, fun m hm => ?_⟩; rw [List.length_take] at hm; rw [List.take_take, Nat.min_eq_left (by omega)]; exact h.2 m (by omega)
theorem Xfn.len {l : List Rc} (h : Xfn l) : l.length + Uu l ≤ 150 := by
 have := h.2 l.length (Nat.le_refl _)
 rwa [List.take_length] at this
theorem Xfn.nil : Xfn [] := by
 refine ⟨fun i hi => by simp at hi, fun n hn => ?_⟩
 simp at hn
 subst hn
 decide
end Go.Proofs.YtphnphmbfogmlaaGreat.T
