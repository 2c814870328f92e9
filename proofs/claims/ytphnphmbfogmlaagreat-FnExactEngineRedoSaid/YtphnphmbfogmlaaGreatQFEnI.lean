import Derived.Test.YtphnphmbfogmlaaGreatQFByq
import Derived.Test.YtphnphmbfogmlaaGreatQFEnK2
import Derived.Test.YtphnphmbfogmlaaGreatQFLckW
import Derived.Test.YtphnphmbfogmlaaGreatQFPrRedoI
import Derived.Test.YtphnphmbfogmlaaGreatQFUndI
namespace Go.Proofs.YtphnphmbfogmlaaGreat.T
open Go.RowKit Go.PW Go.Proofs.YtphnphmbfogmlaaGreat.Pr
set_option linter.unusedSimpArgs false
set_option linter.unusedVariables false
theorem Xcp (a b : Int) (l : List Int) (h : l.length < 17592186044416) : Yf.f a b l = some (a, b, l) := by
 unfold Yf.f Zq.f
 rw [Option.bind_some, if_pos (by simpa using h)]
 rfl
theorem OW {D : List Pg} (h : V3 D) : ∀ (d i k : Nat), i + d = 5 → d < k → Zm.l0 k (D.take i) D (D.length : Int) (i : Int) = some D
 | 0, i, k + 1, hi, _ => by
  rw [Zm.l0, if_neg zb83, List.take_of_length_le zb83]
 | d + 1, i, k + 1, hi, hk => by
  have hok : (Xb D (i : Int)).f2.length = 3 := h.ok (i : Int) (by omega) (by omega); rw [Zm.l0, if_pos zb83, if_pos (by omega), if_pos zb83, Xcp _ _ _ (by rw [hok]; omega), Option.bind_some, if_pos (by rw [List.length_take]; have := h.len; omega), Xcq (by omega) (by omega)]
  have e : D.take i ++ [(⟨(Xb D (i : Int)).f0, (Xb D (i : Int)).f1, (Xb D (i : Int)).f2⟩ : S56)] = D.take (i + 1) := by
   have hlt : i < D.length := by rw [h.len]; omega
   rw [List.take_succ_eq_append_getElem hlt]
   congr 2
   unfold Xb
   rw [List.getD_eq_getElem?_getD, Int.toNat_natCast, List.getElem?_eq_getElem hlt]
   rfl
  have ih := OW h d (i + 1) k (by omega) (by omega); rw [← e] at ih; exact ih
theorem XkE {D : List Pg} (h : V3 D) (k : Nat) (hk : 10 ≤ k) : Zm.f k D = some D := OW h 5 0 k (by omega) (by omega)
theorem Xfi (a b c d e f g h : Int) : ZX.f a b c d e f g h = some (PH a) := by
 unfold ZX.f PH
 by_cases h1 : a = 1
 ·simp [h1]
 ·by_cases h2 : a = 2
  ·simp [h2]
  ·simp [h1, h2]
theorem Xm0 (q : Pg) (k tx p s o n pv nx lsn : Int) (hl : q.f2.length = 3) (hs : s < 3) : ∃ y : Int × Int × List Int, Zg.f q.f0 q.f1 q.f2 k tx p s o n pv nx = some y ∧ y.1 = q.f0 ∧ y.2.1 = (doB q s n lsn).f1 ∧ y.2.2 = (doB q s n lsn).f2 := by
 unfold Zg.f doB
 rw [Xcp q.f0 q.f1 q.f2 (by omega), Option.bind_some]
 by_cases h : s ≥ 0
 ·rw [if_pos h, if_pos (show 0 ≤ s from h), if_pos (show 0 ≤ s from h), if_pos (by show s < (q.f2.length : Int); omega)]
  exact ⟨_, rfl, rfl, rfl, rfl⟩
 ·rw [if_neg h, if_neg (show ¬ 0 ≤ s from h)]
  by_cases h2 : n = 0
  ·rw [if_pos h2, if_pos (by omega), if_pos h2]
   exact ⟨_, rfl, rfl, rfl, rfl⟩
  ·rw [if_neg h2, if_neg h2]
   exact ⟨_, rfl, rfl, rfl, rfl⟩
theorem Xi4 (q : Pg) (s n lsn : Int) : (⟨lsn, (doB q s n lsn).f1, (doB q s n lsn).f2⟩ : Pg) = doB q s n lsn := by
 have h := Xi5 q s n lsn
 cases h2 : doB q s n lsn with
 | mk a b c =>
  rw [h2] at h; simp only at h ⊢; rw [h]
theorem Xi6 {L : List Rc} (g : Good L) (hl : L.length ≤ 160) : ∀ (d i k : Nat) (X : List Pg), i + d = L.length → d < k → V3 X → Yv.l0 k X L (L.length : Int) (i : Int) = some (((List.range L.length).drop i).foldl (Ut L) X, Ji (((List.range L.length).drop i).foldl (Ut L) X))
 | 0, i, k + 1, X, hi, _, _ => by
  rw [Yv.l0, if_neg (by omega), List.drop_of_length_le zb99]
  rfl
 | d + 1, i, k + 1, X, hi, hk, hX => by
  have hlt : i < L.length := by omega
  have hp := (g i hlt).page; have hsl := (g i hlt).slot; simp only [rc] at hp hsl; have ih := Xi6 g hl d (i + 1) k (Ut L X i) (by omega) (by omega) (PI hX g i hlt); rw [Ti _ _ hlt, List.foldl_cons, Yv.l0, if_pos (by omega), if_pos (by omega), if_pos (by omega), Xfi, Option.bind_some, Xcq (by omega) (by omega)]
  have e : (i : Int) + 1 = ((i + 1 : Nat) : Int) := by omega
  rw [e]
  have hst : Ut L X i = if PH (Xa L (i : Int)).f0 = true ∧ (Xb X (Xa L (i : Int)).f2).f0 < ((i + 1 : Nat) : Int) then X.set (Xa L (i : Int)).f2.toNat (doB (Xb X (Xa L (i : Int)).f2) (Xa L (i : Int)).f3 (Xa L (i : Int)).f5 ((i + 1 : Nat) : Int)) else X := by
   unfold Ut
   rw [e]
  cases hc : PH (Xa L (i : Int)).f0 with
  | false =>
   rw [if_neg (by simp)]; rw [hc, if_neg (by simp)] at hst; rw [hst] at ih ⊢
   exact ih
  | true =>
   rw [if_pos rfl, if_pos hp.1, if_pos (by rw [hX.len]; exact hp.2)]
   by_cases hq : (Xb X (Xa L (i : Int)).f2).f0 < ((i + 1 : Nat) : Int)
   ·have h3 : (Xb X (Xa L (i : Int)).f2).f2.length = 3 := hX.ok _ hp.1 hp.2
    obtain ⟨y, e1, e2, e3, e4⟩ := Xm0 (Xb X (Xa L (i : Int)).f2) (Xa L (i : Int)).f0 (Xa L (i : Int)).f1 (Xa L (i : Int)).f2 (Xa L (i : Int)).f3 (Xa L (i : Int)).f4 (Xa L (i : Int)).f5 (Xa L (i : Int)).f6 (Xa L (i : Int)).f7 ((i + 1 : Nat) : Int) h3 hsl.2; rw [if_neg (show ¬ (Xb X (Xa L (i : Int)).f2).f0 ≥ ((i + 1 : Nat) : Int) by omega), e1, Option.bind_some, e3, e4, Xi4]; rw [hc, if_pos ⟨rfl, hq⟩] at hst; rw [hst] at ih ⊢; exact ih
   ·rw [if_pos (show (Xb X (Xa L (i : Int)).f2).f0 ≥ ((i + 1 : Nat) : Int) by omega)]
    rw [hc, if_neg (fun h => hq h.2)] at hst; rw [hst] at ih ⊢; exact ih
theorem Wy {D : List Pg} (hD : V3 D) {L : List Rc} (h : YP L = true) (k : Nat) (hk : 200 ≤ k) : Yv.f k D L = some (XE D L, Ji (XE D L)) := by
 have hl := ZK h
 unfold Yv.f XE
 rw [XkE hD k (by omega), Option.bind_some]; have := Xi6 (JB h) (by omega) L.length 0 k D (by omega) (by omega) hD
 simpa using this
theorem BC {l : List Rc} (g : Good l) (hl : l.length ≤ 160) : ∀ (n k : Nat) (a : Int), 0 ≤ a → a ≤ (n : Int) → a ≤ (l.length : Int) → 2 * n + 1 ≤ k → XT.l0 k l a = some (Zx l n a)
 | 0, k + 1, a, h0, h, _, _ => by rw [XT.l0, if_pos (by omega), Zx]
 | n + 1, k + 1, a, h0, h, h2, hk => by
  rw [XT.l0, Zx]
  by_cases ha : 0 < a
  ·obtain ⟨j, rfl⟩ := Nu ha
   have hp := (g j (by omega)).DV (by omega); have hn := (g j (by omega)).next
   obtain ⟨k2, rfl⟩ : ∃ k2, k = k2 + 1 := ⟨k - 1, by omega⟩
   have ih7 := BC g hl n k2 (rc l (j : Int)).f7 (by omega) (by omega) (by omega) (by omega); have ih6 := BC g hl n k2 (rc l (j : Int)).f6 (by omega) (by omega) (by omega) (by omega); rw [if_neg (by omega), if_pos ha, XtR (by omega), show (j : Int) + 1 - 1 = (j : Int) by omega, if_pos (by omega), if_pos (by omega)]; simp only [rc] at hp hn ih7 ih6 ⊢
   by_cases h1 : (Xa l (j : Int)).f0 = 1
   ·rw [if_pos h1, if_pos (Or.inl h1), XT.j1, if_pos (beq_iff_eq.mpr h1)]
   ·rw [if_neg h1, XT.j1]
    by_cases h2 : (Xa l (j : Int)).f0 = 2
    ·rw [if_pos (beq_iff_eq.mpr h2), if_pos (Or.inr h2)]
    ·rw [if_neg (show ¬ ((Xa l (j : Int)).f0 == 2) = true from fun h => h2 (beq_iff_eq.mp h)), if_neg (show ¬ ((Xa l (j : Int)).f0 = 1 ∨ (Xa l (j : Int)).f0 = 2) from fun h => h.elim h1 h2)]
     by_cases h6 : (Xa l (j : Int)).f0 = 6
     ·rw [if_pos h6, if_pos h6]
      exact ih7
     ·rw [if_neg h6, if_neg h6]
      exact ih6
  ·rw [if_pos (by omega), if_neg ha]
theorem Xcr {l : List Rc} (g : Good l) (hl : l.length ≤ 160) (k : Nat) (a : Int) (h0 : 0 ≤ a) (ha : a ≤ (l.length : Int)) (hk : 400 ≤ k) : XT.f k l a = some (Zx l l.length a) :=
 BC g hl l.length k a h0 ha ha (by omega)
theorem Xi7 {L : List Rc} (g : Good L) (hl : L.length ≤ 160) : ∀ (n k : Nat) (a : Int) (acc : List Int), a ≤ (n : Int) → a ≤ (L.length : Int) → n + 420 ≤ k → acc.length + n ≤ 1000 → Za.l0 k L acc (Zx L L.length a) = some (acc ++ Vp L n a)
 | 0, k + 1, a, acc, h1, h2, hk, hc => by
  have hb := VB g L.length a (rc L (a - 1)).f1 h2 (fun _ => rfl)
  rw [Za.l0, if_pos (by omega), Vp, List.append_nil]
 | n + 1, k + 1, a, acc, h1, h2, hk, hc => by
  have hb0 := (VB g L.length a (rc L (a - 1)).f1 h2 (fun _ => rfl)).1; rw [Za.l0, Vp]
  by_cases hb : 0 < Zx L L.length a
  ·have bp := Mh g h2 hb
   rw [if_neg (by omega), if_pos hb, if_pos (by omega)]; obtain ⟨j, hj⟩ := Nu hb; rw [hj] at bp ⊢; rw [show (j : Int) + 1 - 1 = (j : Int) by omega] at bp ⊢
   have hjl : j < L.length := by
    have := (VB g L.length a (rc L (a - 1)).f1 h2 (fun _ => rfl)).2.1; omega
   simp only [rc] at bp ⊢; rw [T.wrap_small (by omega) (by omega), if_pos (by omega), if_pos (by omega), Xcr g hl k _ bp.1 (by omega) (by omega), Option.bind_some, Xi7 g hl n k _ _ (by omega) (by omega) (by omega) zb99]
   simp
  ·rw [if_pos (by omega), if_neg hb, List.append_nil]
theorem Xi8 {L : List Rc} (g : Good L) (hl : L.length ≤ 160) (t : Int) (k : Nat) (hk : 600 ≤ k) : Za.f k L t = some (Vp L L.length (lastB L t)) := by
 have h0 := Uj L t; have hn := Dj L t
 unfold Za.f Jw.f
 rw [Option.bind_some, Xcr g hl k _ h0 hn (by omega), Option.bind_some, Xi7 g hl L.length k _ [] hn hn (by omega) zb99, List.nil_append]
theorem Sk {L : List Rc} (g : Good L) : ∀ (n : Nat) (a : Int), a ≤ (n : Int) → a ≤ (L.length : Int) → (Vp L n a).length = SB L n a
 | 0, a, _, _ => rfl
 | n + 1, a, h1, h2 => by
  have hf : Zx L (n + 1) a = Zx L L.length a := MB g _ _ a h1 h2 h2; rw [Vp, SB, hf]
  by_cases hb : 0 < Zx L L.length a
  ·have bp := Mh g h2 hb
   rw [if_pos hb, if_pos hb, List.length_cons, Sk g n _ (by omega) (by omega)]
  ·rw [if_neg hb, if_neg hb]
   rfl
theorem OX {L : List Rc} (g : Good L) : ∀ (n : Nat) (a : Int), a ≤ (L.length : Int) → ∀ y ∈ Vp L n a, 1 ≤ y ∧ y ≤ (L.length : Int)
 | 0, a, _, y, hy => by simp [Vp] at hy
 | n + 1, a, h2, y, hy => by
  rw [Vp] at hy
  by_cases hb : 0 < Zx L L.length a
  ·have bp := Mh g h2 hb
   have hm := (VB g L.length a (rc L (a - 1)).f1 h2 (fun _ => rfl)).2.1; rw [if_pos hb] at hy
   rcases List.mem_cons.mp hy with rfl | hy
   ·omega
   ·exact OX g n _ (by omega) y hy
  ·rw [if_neg hb] at hy
   simp at hy
theorem Xfj {L : List Rc} (g : Good L) (n : Nat) {a : Int} (h : a = 0) : Vp L n a = [] := by
 cases n with
 | zero => rfl
 | succ n =>
  have hb := (VB g L.length a (rc L (a - 1)).f1 (by omega) (fun _ => rfl)).2.1; rw [Vp, if_neg (by omega)]
def SC (L : List Rc) (t : Int) : List Int := Vp L L.length (lastB L t)
theorem XkF {L : List Rc} (g : Good L) : (ZZ L 3 1).flatMap (SC L) = SQ L := by
 have key : ∀ (t : Int) (q : List Int), (if lastB L t = 0 then q else t :: q).flatMap (SC L) = SC L t ++ q.flatMap (SC L) := fun t q => by
  by_cases h : lastB L t = 0
  ·rw [if_pos h]
   unfold SC
   rw [Xfj g _ h, List.nil_append]
  ·rw [if_neg h, List.flatMap_cons]
 unfold SQ
 rw [ZZ, key, ZZ, key, ZZ, key, ZZ]
 simp [SC]
theorem Xi9 {L : List Rc} (g : Good L) (hl : L.length ≤ 160) (T12 : List Int) (x14 : Int) (ms u : List Int) (hm : ∀ y ∈ u, 1 ≤ y ∧ y ≤ (L.length : Int)) (hu : u.length ≤ 1000) (K : Nat) (hr : ∀ (k : Nat) (X : List Pg), V3 X → K ≤ k → XU.l0 k X L T12 (wrap64 (x14 + 1)) = some (MV L X ms)) : ∀ (d k i : Nat) (X : List Pg), i + d = u.length → K + d + 20 ≤ k → V3 X → XU.l1 k X L T12 x14 u (i : Int) = some (MV L X (u.drop i ++ ms))
 | 0, k + 1, i, X, hi, hk, hX => by
  rw [XU.l1, if_neg (by omega), hr k X hX (by omega), List.drop_of_length_le (by omega), List.nil_append]
 | d + 1, k + 1, i, X, hi, hk, hX => by
  have hlt : i < u.length := by omega
  have e : u[i] = rd u (i : Int) := by simp [rd, List.getD_eq_getElem?_getD, List.getElem?_eq_getElem hlt]
  have hb := hm (rd u (i : Int)) (by rw [← e]; exact List.getElem_mem hlt)
  obtain ⟨j, hj⟩ : ∃ j : Nat, rd u (i : Int) = (j : Int) + 1 := ⟨(rd u (i : Int) - 1).toNat, by omega⟩
  have e1 : (j : Int) + 1 - 1 = (j : Int) := by omega
  have hjl : j < L.length := by omega
  have hp := (g j hjl).page; have hs := (g j hjl).slot; simp only [rc] at hp hs; have h3 : (Xb X (Xa L (j : Int)).f2).f2.length = 3 := hX.ok _ hp.1 hp.2; have hV := XiA hX g j hjl; obtain ⟨y, y1, y2, y3, y4⟩ := Xm0 (Xb X (Xa L (j : Int)).f2) 6 (Xa L (j : Int)).f1 (Xa L (j : Int)).f2 (Xa L (j : Int)).f3 0 (Xa L (j : Int)).f4 0 (Xa L (j : Int)).f6 (Xb X (Xa L (j : Int)).f2).f0 h3 hs.2
  have hyu : (⟨y.1, y.2.1, y.2.2⟩ : Pg) = U4 X L ((j : Int) + 1) := by
   rw [y2, y3, y4, Xi4]
   unfold U4
   rw [e1]
  have hset : Xb (X.set (Xa L (j : Int)).f2.toNat (U4 X L ((j : Int) + 1))) (Xa L (j : Int)).f2 = U4 X L ((j : Int) + 1) := by
   rw [PK X _ _ _ hp.1 (by rw [hX.len]; exact hp.2) hp.1, if_pos rfl]
  have hu3 : (U4 X L ((j : Int) + 1)).f2.length = 3 := by rw [← hset]; exact hV.ok _ hp.1 hp.2
  have hy3 : y.2.2.length = 3 := by rw [← hyu] at hu3; exact hu3
  rw [XU.l1, if_pos (by omega), if_pos (by omega), hj, e1, T.wrap_small (by omega) (by omega), if_pos (by omega), if_pos (by omega), if_pos hp.1, if_pos (by rw [hX.len]; exact hp.2), y1, Option.bind_some]; rw [SS _ _ _ (by omega) k (by omega), Option.bind_some, hyu, T.wrap_small (by omega) (by omega), List.drop_eq_getElem_cons hlt, e, hj, List.cons_append, MV, e1, show (i : Int) + 1 = ((i + 1 : Nat) : Int) by omega]
  have e2 : PN (U4 X L ((j : Int) + 1)) = Zr y.1 y.2.1 y.2.2 := by rw [← hyu]; rfl
  rw [e2]
  cases Zr y.1 y.2.1 y.2.2 with
  | false =>
   rw [if_neg (by simp)]
   rfl
  | true =>
   rw [if_pos rfl, Bool.true_and]; exact Xi9 g hl T12 x14 ms u hm hu K hr d k (i + 1) _ (by omega) (by omega) hV
theorem Xrf {L : List Rc} (g : Good L) (hl : L.length ≤ 160) (T12 : List Int) (hT : T12.length ≤ 3) (C : Nat) (hC : 1000 ≤ C) : ∀ (d k i : Nat) (X : List Pg), i + d = T12.length → d * 400 + C ≤ k → V3 X → XU.l0 k X L T12 (i : Int) = some (MV L X ((T12.drop i).flatMap (SC L))) := by
 intro d
 induction d with
 | zero =>
  intro k i X hi hk hX
  obtain ⟨k, rfl⟩ : ∃ m, k = m + 1 := ⟨k - 1, by omega⟩
  rw [XU.l0, if_neg (by omega), List.drop_of_length_le (by omega)]
  simp [MV]
 | succ d ih =>
  intro k i X hi hk hX
  obtain ⟨k, rfl⟩ : ∃ m, k = m + 1 := ⟨k - 1, by omega⟩
  have hlt : i < T12.length := by omega
  have e : T12[i] = rd T12 (i : Int) := by simp [rd, List.getD_eq_getElem?_getD, List.getElem?_eq_getElem hlt]
  have hn := Dj L (rd T12 (i : Int)); rw [XU.l0, if_pos (by omega), if_pos (by omega), Xi8 g hl _ k (by omega), Option.bind_some, List.drop_eq_getElem_cons hlt, List.flatMap_cons, e]
  have hlen : (Vp L L.length (lastB L (rd T12 (i : Int)))).length ≤ L.length := by
   rw [Sk g _ _ hn hn]; exact Xbz _ _
  obtain ⟨K, hK⟩ : ∃ K, K = d * 400 + C := ⟨_, rfl⟩
  have h := Xi9 g hl T12 (i : Int) ((T12.drop (i + 1)).flatMap (SC L)) (Vp L L.length (lastB L (rd T12 (i : Int)))) (OX g _ _ hn) (by omega) K (fun k X hX hk => by
   rw [T.wrap_small (by omega) (by omega), show (i : Int) + 1 = ((i + 1 : Nat) : Int) by omega]
   exact ih k (i + 1) X (by rw [Nat.add_right_comm, Nat.add_assoc]; exact hi) (hK ▸ hk) hX) (Vp L L.length (lastB L (rd T12 (i : Int)))).length k 0 X (by omega) (by omega) hX
  rw [List.drop_zero] at h; exact h
theorem Xb0 {X : List Pg} (hX : V3 X) {L : List Rc} (ok : YP L = true) (k : Nat) (hk : 3000 ≤ k) : XU.f k X L = some (MV L X (SQ L)) := by
 have hl := ZK ok; have g := JB ok; have ho := Sl L 3 1
 unfold XU.f Zf.f
 rw [K9 L 3 k 1 [] (by omega) (by omega) (by simp) (by omega), Option.bind_some, List.nil_append]; have h := Xrf g (by omega) (ZZ L 3 1) ho 1000 (Nat.le_refl _) (ZZ L 3 1).length k 0 X (by omega) (by omega) hX; rw [List.drop_zero, XkF g] at h; exact h
theorem Xm1 {L : List Rc} (g : Good L) (hl : L.length ≤ 160) (O : List Int) (hO : O.length ≤ 3) : ∀ (d k i : Nat) (x : Nat), i + d = O.length → d + 620 ≤ k → x ≤ 1000 * i → ZL.l0 k L (x : Int) O (O.length : Int) (i : Int) = some ((x + ((O.drop i).map (fun t => (SC L t).length + 1)).sum : Nat) : Int)
 | 0, k + 1, i, x, hi, hk, hx => by
  rw [ZL.l0, if_neg (by omega), List.drop_of_length_le (by omega)]
  simp
 | d + 1, k + 1, i, x, hi, hk, hx => by
  have hlt : i < O.length := by omega
  have e : O[i] = rd O (i : Int) := by simp [rd, List.getD_eq_getElem?_getD, List.getElem?_eq_getElem hlt]
  have hn := Dj L (rd O (i : Int))
  have hlen : (Vp L L.length (lastB L (rd O (i : Int)))).length ≤ L.length := by
   rw [Sk g _ _ hn hn]; exact Xbz _ _
  have e2 : (x : Int) + (((Vp L L.length (lastB L (rd O (i : Int)))).length : Int) + 1) = ((x + ((SC L (rd O (i : Int))).length + 1) : Nat) : Int) := by unfold SC; omega
  rw [ZL.l0, if_pos (by omega), if_pos (by omega), if_pos (by omega), Xi8 g hl _ k (by omega), Option.bind_some, T.wrap_small (show -9223372036854775808 ≤ ((Vp L L.length (lastB L (rd O (i : Int)))).length : Int) + 1 by omega) (by omega), T.wrap_small (show -9223372036854775808 ≤ (x : Int) + (((Vp L L.length (lastB L (rd O (i : Int)))).length : Int) + 1) by omega) (by omega), T.wrap_small (show -9223372036854775808 ≤ (i : Int) + 1 by omega) (by omega), e2, show (i : Int) + 1 = ((i + 1 : Nat) : Int) by omega,
   Xm1 g hl O hO d k (i + 1) _ (by omega) (by omega) (by unfold SC; omega), List.drop_eq_getElem_cons hlt, List.map_cons, List.sum_cons, e]
  congr 2
  omega
theorem Xm2 {L : List Rc} (g : Good L) : ((ZZ L 3 1).map (fun t => (SC L t).length + 1)).sum = Uu L := by
 have key : ∀ (t : Int) (q : List Int), ((if lastB L t = 0 then q else t :: q).map (fun t => (SC L t).length + 1)).sum = PO L t + (q.map (fun t => (SC L t).length + 1)).sum := fun t q => by
  have h0 := Uj L t; have hn := Dj L t
  unfold PO
  by_cases h : lastB L t = 0
  ·rw [if_pos h, if_neg (by omega), Nat.zero_add]
  ·rw [if_neg h, if_pos (by omega), List.map_cons, List.sum_cons]
   unfold SC
   rw [Sk g _ _ hn hn]
 unfold Uu
 rw [ZZ, key, ZZ, key, ZZ, key, ZZ]
 simp
 omega
theorem Xfk {L : List Rc} (ok : YP L = true) (k : Nat) (hk : 1000 ≤ k) : Mi.f k L = some (decide (L.length + Uu L ≤ 150)) := by
 have hl := ZK ok; have g := JB ok; have ho := Sl L 3 1; have hnb := Xcs (l := L) (by omega)
 unfold Mi.f ZL.f Zf.f
 rw [K9 L 3 k 1 [] (by omega) (by omega) (by simp) (by omega), Option.bind_some, List.nil_append]; have h := Xm1 g (by omega) (ZZ L 3 1) ho (ZZ L 3 1).length k 0 0 (by omega) (by omega) (by omega); rw [List.drop_zero, Xm2 g, Nat.zero_add] at h; have h' : ZL.l0 k L 0 (ZZ L 3 1) ((ZZ L 3 1).length : Int) 0 = some ((Uu L : Nat) : Int) := h; rw [h', Option.bind_some, T.wrap_small (by omega) (by omega)]
 congr 1
 rw [decide_eq_decide]; omega
theorem RL {a b : Pg} (ha : a.f2.length ≤ 1000) (hb : b.f2.length ≤ 1000) (k : Nat) (hk : 1002 ≤ k) : J4.f k a.f0 a.f1 a.f2 b.f0 b.f1 b.f2 = some (VC a b) := by
 have key : ∀ (x y : List Int), x.length = y.length → x.length ≤ 1000 → ∀ (d k i : Nat), i + d = x.length → d < k → XO.l0 k x y (x.length : Int) (i : Int) = some (x.drop i == y.drop i) := fun x y hxy hx => by
  intro d
  induction d with
  | zero =>
   intro k i hi hk
   obtain ⟨k, rfl⟩ : ∃ m, k = m + 1 := ⟨k - 1, by omega⟩
   rw [XO.l0, if_neg (by omega), List.drop_of_length_le (by omega), List.drop_of_length_le (by omega)]
   rfl
  | succ d ih =>
   intro k i hi hk
   obtain ⟨k, rfl⟩ : ∃ m, k = m + 1 := ⟨k - 1, by omega⟩
   have hlt : i < x.length := by omega
   have hlt2 : i < y.length := by omega
   have e : x[i] = rd x (i : Int) := by simp [rd, List.getD_eq_getElem?_getD, List.getElem?_eq_getElem hlt]
   have e' : y[i] = rd y (i : Int) := by simp [rd, List.getD_eq_getElem?_getD, List.getElem?_eq_getElem hlt2]
   rw [XO.l0, if_pos (by omega), if_pos (by omega), if_pos (by omega), if_pos (by omega), List.drop_eq_getElem_cons hlt, List.drop_eq_getElem_cons hlt2, e, e']
   by_cases h : rd x (i : Int) = rd y (i : Int)
   ·rw [if_pos h, T.wrap_small (by omega) (by omega), show (i : Int) + 1 = ((i + 1 : Nat) : Int) by omega, ih k (i + 1) (by omega) (by omega), h]
    simp
   ·rw [if_neg h]
    simp [h]
 unfold J4.f VC
 by_cases h0 : a.f0 = b.f0
 ·rw [if_pos h0, beq_iff_eq.mpr h0, Bool.true_and]
  by_cases h1 : a.f1 = b.f1
  ·rw [if_pos h1, beq_iff_eq.mpr h1, Bool.true_and]
   unfold XO.f
   by_cases hl : (a.f2.length : Int) = (b.f2.length : Int)
   ·have h := key a.f2 b.f2 (by omega) ha a.f2.length k 0 (by omega) (by omega)
    have h' : XO.l0 k a.f2 b.f2 (a.f2.length : Int) 0 = some (a.f2.drop 0 == b.f2.drop 0) := h; rw [if_pos hl, h', Option.bind_some, List.drop_zero, List.drop_zero]
   ·rw [if_neg hl, Option.bind_some]
    have : (a.f2 == b.f2) = false := beq_eq_false_iff_ne.mpr (fun e => hl (by rw [e])); rw [this]
  ·rw [if_neg h1, beq_eq_false_iff_ne.mpr h1, Bool.false_and]
 ·rw [if_neg h0, beq_eq_false_iff_ne.mpr h0, Bool.false_and, Bool.false_and]
end Go.Proofs.YtphnphmbfogmlaaGreat.T
