import Derived.Test.YtphnphmbfogmlaaGreatQFByq
import Derived.Test.YtphnphmbfogmlaaGreatQFL2
import Derived.Test.YtphnphmbfogmlaaGreatQFPrCps
import Derived.Test.YtphnphmbfogmlaaGreatQFEnP
import Derived.Test.YtphnphmbfogmlaaGreatQFPrFresh
import Derived.Test.YtphnphmbfogmlaaGreatQFPrRedo
import Derived.Test.YtphnphmbfogmlaaGreatQFUndS
namespace Go.Proofs.YtphnphmbfogmlaaGreat.T
open Go.RowKit Go.PW Go.Proofs.YtphnphmbfogmlaaGreat.Pr
set_option linter.unusedSimpArgs false
set_option linter.unusedVariables false
theorem XtR {j : Nat} (h1 : j ≤ 1000000) : wrap64 ((j : Int) + 1 - 1) = (j : Int) := by rw [T.wrap_small (by omega) (by omega)]; omega
theorem Xcq {x : Int} (h0 : 0 ≤ x) (h1 : x ≤ 1000000) : wrap64 (x + 1) = x + 1 := T.wrap_small (by omega) (by omega)
theorem Xfl {l : List Rc} (g : Good l) (hl : l.length ≤ 160) : ∀ (n k : Nat) (a : Int), a ≤ (n : Int) → a ≤ (l.length : Int) → 2 * n + 1 ≤ k → XD.l0 k l a = some (Zx l n a)
 | 0, k + 1, a, h, _, _ => by rw [XD.l0, if_neg (by omega), Zx]
 | n + 1, k + 1, a, h, h2, hk => by
  rw [XD.l0, Zx]
  by_cases ha : 0 < a
  ·obtain ⟨j, rfl⟩ := Nu ha
   have hp := (g j (by omega)).DV (by omega); have hn := (g j (by omega)).next
   obtain ⟨k2, rfl⟩ : ∃ k2, k = k2 + 1 := ⟨k - 1, by omega⟩
   have ih7 := Xfl g hl n k2 (rc l (j : Int)).f7 (by omega) (by omega) (by omega); have ih6 := Xfl g hl n k2 (rc l (j : Int)).f6 (by omega) (by omega) (by omega); rw [if_pos ha, if_pos ha, XtR (by omega), show (j : Int) + 1 - 1 = (j : Int) by omega, if_pos (by omega), if_pos (by omega)]; simp only [rc] at hp hn ih7 ih6 ⊢
   by_cases h1 : (Xa l (j : Int)).f0 = 1
   ·rw [if_pos h1, if_pos (Or.inl h1), XD.j1, if_pos (beq_iff_eq.mpr h1)]
   ·rw [if_neg h1, XD.j1]
    by_cases h2 : (Xa l (j : Int)).f0 = 2
    ·rw [if_pos (beq_iff_eq.mpr h2), if_pos (Or.inr h2)]
    ·rw [if_neg (show ¬ ((Xa l (j : Int)).f0 == 2) = true from fun h => h2 (beq_iff_eq.mp h)), if_neg (show ¬ ((Xa l (j : Int)).f0 = 1 ∨ (Xa l (j : Int)).f0 = 2) from fun h => h.elim h1 h2)]
     by_cases h6 : (Xa l (j : Int)).f0 = 6
     ·rw [if_pos h6, if_pos h6]
      exact ih7
     ·rw [if_neg h6, if_neg h6]
      exact ih6
  ·rw [if_neg (by omega), if_neg ha]
theorem BF {l : List Rc} (g : Good l) (hl : l.length ≤ 160) (k : Nat) (a : Int) (ha : a ≤ (l.length : Int)) (hk : 400 ≤ k) : XD.f k l a = some (Zx l l.length a) :=
 Xfl g hl l.length k a ha ha (by omega)
theorem Xm3 {l : List Rc} (hl : l.length ≤ 160) (t : Int) (k : Nat) (hk : 400 ≤ k) : Yr.f k l t = some (lastB l t) := PQ l t (by omega) k (by omega)
theorem Xb1 {l : List Rc} (g : Good l) (hl : l.length ≤ 160) (x4 r : Int) (K : Nat) : ∀ (n : Nat) (a x3 : Int), a ≤ (n : Int) → a ≤ (l.length : Int) → 0 ≤ x3 → x3 + n ≤ 1000 → (∀ k, K ≤ k → X9.l0 k l (x3 + (SB l n a : Int)) (wrap64 (x4 + 1)) = some r) → ∀ k, K + 500 + n ≤ k → X9.l1 k l x3 x4 (Zx l l.length a) = some r
 | 0, a, x3, ha, hl2, h0, h1, hr, k, hk => by
  obtain ⟨k2, rfl⟩ : ∃ k2, k = k2 + 1 := ⟨k - 1, by omega⟩
  have hb := VB g l.length a (rc l (a - 1)).f1 hl2 (fun _ => rfl); rw [X9.l1, if_neg (by omega)]; have := hr k2 (by omega)
  simpa [SB] using this
 | n + 1, a, x3, ha, hl2, h0, h1, hr, k, hk => by
  obtain ⟨k2, rfl⟩ : ∃ k2, k = k2 + 1 := ⟨k - 1, by omega⟩
  have hf : Zx l (n + 1) a = Zx l l.length a := MB g _ _ a ha hl2 hl2; rw [SB, hf] at hr; rw [X9.l1]
  by_cases hb : 0 < Zx l l.length a
  ·have bp := Mh g hl2 hb
   rw [if_pos hb] at hr; rw [if_pos hb]; obtain ⟨j, hj⟩ := Nu hb; rw [hj] at hr bp ⊢; rw [show (j : Int) + 1 - 1 = (j : Int) by omega] at hr bp; rw [XtR (by omega), if_pos (by omega), if_pos (by omega)]
   change (XD.f k2 l (rc l (j : Int)).f6).bind _ = some r
   rw [BF g hl k2 _ (by omega) (by omega), Option.bind_some, Xcq h0 (by omega)]; refine Xb1 g hl x4 r K n (rc l (j : Int)).f6 (x3 + 1) (by omega) (by omega) (by omega) (by omega) (fun k hk => ?_) k2 (by omega); have := hr k hk; rw [show x3 + 1 + (SB l n (rc l (j : Int)).f6 : Int) = x3 + ((SB l n (rc l (j : Int)).f6 + 1 : Nat) : Int) by omega]; exact this
  ·rw [if_neg hb] at hr
   rw [if_neg hb]; have := hr k2 (by omega)
   simpa using this
theorem Xbz {l : List Rc} : ∀ (n : Nat) (a : Int), SB l n a ≤ n
 | 0, _ => by simp [SB]
 | n + 1, a => by
  rw [SB]
  split
  ·have := Xbz (l := l) n (rc l (Zx l (n + 1) a - 1)).f6
   omega
  ·omega
theorem Xb2 {l : List Rc} (g : Good l) (hl : l.length ≤ 160) (x4 x3 r : Int) (h4 : 1 ≤ x4 ∧ x4 ≤ 3) (h0 : 0 ≤ x3) (h1 : x3 ≤ 600) (K : Nat) (hr : ∀ k, K ≤ k → X9.l0 k l (x3 + (PO l x4 : Int)) (x4 + 1) = some r) : ∀ k, K + 1100 ≤ k → X9.l0 k l x3 x4 = some r := by
 intro k hk
 obtain ⟨k2, rfl⟩ : ∃ k2, k = k2 + 2 := ⟨k - 2, by omega⟩
 have hb := Dj l x4; have hb0 := Uj l x4; have w4 : wrap64 (x4 + 1) = x4 + 1 := Xcq (by omega) (by omega); rw [X9.l0, if_pos (by omega), Xm3 hl x4 _ (by omega), Option.bind_some]
 unfold PO at hr
 by_cases h : 0 < lastB l x4
 ·rw [if_pos h] at hr
  rw [if_pos h, X9.j1, BF g hl _ _ hb (by omega), Option.bind_some, Xcq h0 (by omega)]; refine Xb1 g hl x4 r K l.length (lastB l x4) (x3 + 1) hb hb (by omega) (by omega) (fun k hk => ?_) k2 (by omega); rw [w4, show x3 + 1 + (SB l l.length (lastB l x4) : Int) = x3 + ((SB l l.length (lastB l x4) + 1 : Nat) : Int) by omega]; exact hr k hk
 ·rw [if_neg h] at hr
  rw [if_neg h, X9.j1, BF g hl _ _ hb (by omega), Option.bind_some]
  have h0' : lastB l x4 = 0 := by omega
  have hc : SB l l.length (lastB l x4) = 0 := by
   rw [h0']; have hb2 := VB g l.length 0 (rc l (0 - 1)).f1 (by omega) (fun _ => rfl)
   cases hn : l.length with
   | zero => rfl
   | succ m =>
    rw [SB, if_neg]; rw [← hn]; omega
  refine Xb1 g hl x4 r K l.length (lastB l x4) x3 hb hb (by omega) (by omega) (fun k hk => ?_) k2 (by omega); rw [w4, hc]; exact hr k hk
theorem Nv {l : List Rc} (hl : l.length ≤ 160) (t : Int) : PO l t ≤ 161 := by
 unfold PO
 split
 ·have := Xbz (l := l) l.length (lastB l t)
  omega
 ·omega
theorem XtS {l : List Rc} (g : Good l) (hl : l.length ≤ 160) (k : Nat) (hk : 4000 ≤ k) : X9.f k l = some (Uu l : Int) := by
 have n1 := Nv hl 1; have n2 := Nv hl 2
 unfold X9.f Uu
 refine Xb2 g hl 1 0 _ (by omega) (by omega) (by omega) 2300 (fun k hk => ?_) k (by omega); refine Xb2 g hl 2 _ _ (by omega) (by omega) (by omega) 1150 (fun k hk => ?_) k (by omega); refine Xb2 g hl 3 _ _ (by omega) (by omega) (by omega) 1 (fun k hk => ?_) k (by omega)
 obtain ⟨k2, rfl⟩ : ∃ k2, k = k2 + 1 := ⟨k - 1, by omega⟩
 rw [X9.l0, if_neg (by omega)]
 congr 1
 omega
theorem Xct {l : List Rc} (h : YP l = true) (i : Nat) (hi : i < l.length) : Jt l i = true := by
 unfold YP at h
 simp only [Bool.and_eq_true, List.all_eq_true] at h; exact h.2 i (by simpa using hi)
theorem XkG {l : List Rc} {i n : Nat} (hi : i < n) : Jt (l.take n) i = Jt l i := by
 have e : ∀ j : Int, 0 ≤ j → j < (n : Int) → Xa (l.take n) j = Xa l j := fun j h0 h1 => RN l n j h0 h1
 unfold Jt
 rw [e (i : Int) (by omega) (by omega), List.take_take, Nat.min_eq_left (by omega)]
 by_cases h7 : (Xa l (i : Int)).f7 ≤ (i : Int)
 ·by_cases h0 : (Xa l (i : Int)).f7 ≤ 0
  ·rw [decide_eq_true h0, Bool.true_or, Bool.true_or]
  ·rw [e _ (by omega) (by omega)]
 ·rw [decide_eq_false h7, Bool.and_false, Bool.false_and, Bool.false_and]
theorem BG {l : List Rc} (h : YP l = true) (n : Nat) : YP (l.take n) = true := by
 have hl := ZK h
 unfold YP
 rw [Bool.and_eq_true, decide_eq_true_eq, List.all_eq_true]; refine ⟨by rw [List.length_take]; omega, fun i hi => ?_⟩; rw [List.mem_range, List.length_take] at hi; rw [XkG (by omega)]; exact Xct h i (by omega)
theorem PK (D : List S56) (p i : Int) (x : S56) (h0 : 0 ≤ p) (h1 : p < (D.length : Int)) (hi : 0 ≤ i) : Xb (D.set p.toNat x) i = if i = p then x else Xb D i := by
 unfold Xb
 rw [List.getD_eq_getElem?_getD, List.getD_eq_getElem?_getD, List.getElem?_set]
 by_cases h : i = p
 ·subst h
  rw [if_pos rfl, if_pos rfl, if_pos (by omega)]
  rfl
 ·rw [if_neg (by omega), if_neg h]
theorem Xm4 (a b : Int) (l : List Int) (h : l.length < 17592186044416) : JC.f a b l = some (a, b, l) := by
 unfold JC.f
 rw [Option.bind_some, if_pos (by simpa using h)]
 rfl
theorem Xcu {k tx p s o n pv nx : Int} (h : V6 k tx p s o n pv nx = true) : (1 ≤ tx ∧ tx ≤ 3) ∧ (0 ≤ p ∧ p < 5) ∧ (-1 ≤ s ∧ s < 3) ∧ 0 ≤ nx := by
 unfold V6 at h
 simp only [Bool.and_eq_true] at h; obtain ⟨⟨h1, ht⟩, _⟩ := h; have ht' := Db.mp ht; refine ⟨ht', ?_⟩
 have k4 : ∀ x : Int, inB x 0 4 = true → 0 ≤ x ∧ x < 5 := fun x hx => by have := Db.mp hx; omega
 have k2 : ∀ x : Int, inB x 0 2 = true → -1 ≤ x ∧ x < 3 := fun x hx => by have := Db.mp hx; omega
 have k3 : ∀ x : Int, inB x (-1) 2 = true → -1 ≤ x ∧ x < 3 := fun x hx => by have := Db.mp hx; omega
 split at h1
 ·simp only [Bool.and_eq_true, beq_iff_eq] at h1
  exact ⟨k4 _ h1.1.1.1.1, k2 _ h1.1.1.1.2, by omega⟩
 ·split at h1
  ·simp only [Bool.and_eq_true, beq_iff_eq] at h1
   exact ⟨k4 _ h1.1.1.1.1, by omega, by omega⟩
  ·split at h1
   ·simp only [Bool.and_eq_true, beq_iff_eq] at h1
    exact ⟨k4 _ h1.1.1.1.1, by omega, by omega⟩
   ·split at h1
    ·simp only [Bool.and_eq_true, beq_iff_eq] at h1
     omega
    ·split at h1
     ·simp only [Bool.and_eq_true, beq_iff_eq] at h1
      have := Db.mp h1.2; exact ⟨k4 _ h1.1.1.1.1, k3 _ h1.1.1.1.2, by omega⟩
     ·exact absurd h1 (by simp)
theorem JB {l : List Rc} (h : YP l = true) : Good l := fun i hi => by
 have h1 := Xct h i hi
 unfold Jt at h1
 simp only [Bool.and_eq_true, beq_iff_eq, Bool.or_eq_true, decide_eq_true_eq] at h1; obtain ⟨⟨⟨h2, h3⟩, h4⟩, h5⟩ := h1; obtain ⟨a, b, c, d⟩ := Xcu h2; exact ⟨a, b, c, h3, ⟨d, h4⟩, fun h0 => h5.elim (fun h6 => by simp only [rc] at h0; omega) id⟩
theorem Xcs {l : List Rc} (hl : l.length ≤ 160) : Uu l ≤ 483 := by
 have n1 := Nv hl 1; have n2 := Nv hl 2; have n3 := Nv hl 3
 unfold Uu
 omega
structure V3 (D : List Pg) : Prop where
 len : D.length = 5
 ok : ∀ i : Int, 0 ≤ i → i < 5 → (pg D i).f2.length = 3
theorem V3.set {D : List Pg} (h : V3 D) {p : Int} (h0 : 0 ≤ p) (h1 : p < 5) {x : Pg} (hx : x.f2.length = 3) : V3 (D.set p.toNat x) := by
 refine ⟨by rw [List.length_set]; exact h.len, fun i hi hi2 => ?_⟩; rw [pg, PK D p i x h0 zb83 hi]
 split
 ·exact hx
 ·exact h.ok i hi hi2
theorem PR {D : List Pg} (h : Ji D = true) (p : Int) (h0 : 0 ≤ p) (h1 : p < 5) : PN (pg D p) = true := by
 unfold Ji at h
 simp only [Bool.and_eq_true, beq_iff_eq, Bool.not_eq_true'] at h
 have hlt : p.toNat < D.length := by omega
 cases hb : PN (pg D p) with
 | true => rfl
 | false =>
  have h2 : D.any FO = true := by
   rw [List.any_eq_true]; refine ⟨D[p.toNat], List.getElem_mem hlt, ?_⟩
   have e : pg D p = D[p.toNat] := by
    unfold pg Xb
    rw [List.getD_eq_getElem?_getD, List.getElem?_eq_getElem hlt]
    rfl
   unfold FO
   rw [← e, hb]
   rfl
  rw [h2] at h; exact absurd h.2 (by simp)
theorem BH {q : Pg} (h : PN q = true) : q.f2.length = 3 ∧ (0 ≤ q.f1 ∧ q.f1 ≤ 3) ∧ ∀ k : Nat, k < q.f2.length → 0 ≤ rd q.f2 k ∧ rd q.f2 k ≤ 9 := by
 unfold PN at h
 rw [VW] at h; simp only [Bool.and_eq_true, beq_iff_eq, Bool.not_eq_true'] at h; obtain ⟨⟨⟨_, hb⟩, hl⟩, hv⟩ := h; have hb2 := Db.mp hb; refine ⟨hl, hb2, fun k hk => ?_⟩
 have hx : Dv q.f1 (rd q.f2 k) = false := by
  cases hq : Dv q.f1 (rd q.f2 k) with
  | false => rfl
  | true => rw [Xb3 hk hq] at hv; exact absurd hv (by simp)
 unfold Dv at hx
 simp only [Bool.or_eq_false_iff, Bool.not_eq_false'] at hx; exact Db.mp hx.1
theorem Uv {D : List Pg} (h : Ji D = true) : V3 D := by
 refine ⟨?_, fun i h0 h1 => (BH (PR h i h0 h1)).1⟩
 unfold Ji at h
 simp only [Bool.and_eq_true, beq_iff_eq] at h; omega
theorem Xcv {D : List Pg} {L : List Rc} (h : preB D (L.take L.length) = true) : Ji (XE D L) = true := by
 rw [List.take_length] at h
 unfold preB at h
 rw [Bool.and_eq_true] at h; exact h.1
theorem Xm5 {D : List Pg} (h : V3 D) : ∀ (d k i : Nat), i + d = 5 → d + 5 < k → Yj.l0 k D (i : Int) = some (!(D.drop i).any FO)
 | 0, k + 1, i, hi, _ => by
  rw [Yj.l0, if_neg zb83, List.drop_of_length_le zb83, h.len]
  rfl
 | d + 1, k + 1, i, hi, hk => by
  have hlt : i < D.length := by rw [h.len]; omega
  have e : D[i] = Xb D (i : Int) := by
   unfold Xb
   rw [List.getD_eq_getElem?_getD, Int.toNat_natCast, List.getElem?_eq_getElem hlt]
   rfl
  have h3 : (Xb D (i : Int)).f2.length = 3 := h.ok (i : Int) (by omega) (by omega); rw [Yj.l0, if_pos zb83, if_pos (by omega), Dh _ _ _ (by omega) _ (by omega), Option.bind_some, List.drop_eq_getElem_cons hlt, List.any_cons, e, Xcq (by omega) (by omega)]; have ih := Xm5 h d k (i + 1) (by omega) (by omega); have e2 : FO (Xb D (i : Int)) = !Zr (Xb D (i : Int)).f0 (Xb D (i : Int)).f1 (Xb D (i : Int)).f2 := rfl; rw [e2]
  cases Zr (Xb D (i : Int)).f0 (Xb D (i : Int)).f1 (Xb D (i : Int)).f2 with
  | true =>
   rw [if_pos rfl]
   exact ih
  | false =>
   rw [if_neg (by simp)]
   rfl
theorem XtT {D : List Pg} (h : V3 D) (k : Nat) (hk : 12 ≤ k) : Yj.f k D = some (Ji D) := by
 have h1 := Xm5 h 5 k 0 (by omega) (by omega)
 unfold Yj.f Ji
 rw [h.len]
 simpa using h1
theorem Xcw {D : List Pg} (h : V3 D) : ∀ (d i k : Nat), i + d = 5 → d < k → Yo.l0 k D (D.take i) (i : Int) = some D
 | 0, i, k + 1, hi, _ => by
  rw [Yo.l0, if_neg zb83, List.take_of_length_le zb83]
 | d + 1, i, k + 1, hi, hk => by
  have hok : (Xb D (i : Int)).f2.length = 3 := h.ok (i : Int) (by omega) (by omega); rw [Yo.l0, if_pos zb83, if_pos (by omega), Xm4 _ _ _ (by rw [hok]; omega), Option.bind_some, if_pos (by rw [List.length_take]; have := h.len; omega), Xcq (by omega) (by omega)]
  have e : D.take i ++ [(⟨(Xb D (i : Int)).f0, (Xb D (i : Int)).f1, (Xb D (i : Int)).f2⟩ : S56)] = D.take (i + 1) := by
   have hlt : i < D.length := by rw [h.len]; omega
   rw [List.take_succ_eq_append_getElem hlt]
   congr 2
   unfold Xb
   rw [List.getD_eq_getElem?_getD, Int.toNat_natCast, List.getElem?_eq_getElem hlt]
   rfl
  have ih := Xcw h d (i + 1) k (by omega) (by omega); rw [← e] at ih; exact ih
theorem Xm6 {D : List Pg} (h : V3 D) (k : Nat) (hk : 10 ≤ k) : Yo.f k D = some D := Xcw h 5 0 k (by omega) (by omega)
theorem OY (a : Int) : ZP.f a = some (PH a) := by
 unfold ZP.f PH
 by_cases h1 : a = 1
 ·simp [h1]
 ·by_cases h2 : a = 2
  ·simp [h2]
  ·simp [h1, h2]
theorem do_f (q : Pg) (k tx p s o n pv nx lsn : Int) (hl : q.f2.length = 3) (hs : s < 3) : VD.f q.f0 q.f1 q.f2 k tx p s o n pv nx lsn = some ((doB q s n lsn).f0, (doB q s n lsn).f1, (doB q s n lsn).f2) := by
 unfold VD.f doB
 rw [Xm4 q.f0 q.f1 q.f2 (by omega), Option.bind_some]
 by_cases h : s ≥ 0
 ·rw [if_pos h, if_pos (show 0 ≤ s from h), if_pos (show 0 ≤ s from h), if_pos (by show s < (q.f2.length : Int); omega)]
 ·rw [if_neg h, if_neg (show ¬ 0 ≤ s from h)]
  by_cases h2 : n = 0
  ·rw [if_pos h2, if_pos (by omega), if_pos h2, h2]
   rfl
  ·rw [if_neg h2, if_neg h2]
theorem XiB (q : Pg) (s n lsn : Int) (h : q.f2.length = 3) : (doB q s n lsn).f2.length = 3 := by
 unfold doB
 split
 ·simpa using h
 ·split
  ·rfl
  ·exact h
theorem Xi5 (q : Pg) (s n lsn : Int) : (doB q s n lsn).f0 = lsn := by
 unfold doB
 split
 ·rfl
 ·split <;> rfl
theorem PI {D : List Pg} (h : V3 D) {L : List Rc} (g : Good L) (i : Nat) (hi : i < L.length) : V3 (Ut L D i) := by
 unfold Ut
 split
 ·have hp := (g i hi).page
  exact h.set hp.1 hp.2 (XiB _ _ _ _ (h.ok _ hp.1 hp.2))
 ·exact h
theorem Ti (n i : Nat) (h : i < n) : (List.range n).drop i = i :: (List.range n).drop (i + 1) := by
 rw [List.drop_eq_getElem_cons (by simpa using h)]
 simp
theorem Xm7 {L : List Rc} (g : Good L) (hl : L.length ≤ 160) : ∀ (d i k : Nat) (X : List Pg), i + d = L.length → d < k → V3 X → XL.l0 k L X (i : Int) = some (((List.range L.length).drop i).foldl (Ut L) X)
 | 0, i, k + 1, X, hi, _, _ => by
  rw [XL.l0, if_neg (by omega), List.drop_of_length_le zb99]
  rfl
 | d + 1, i, k + 1, X, hi, hk, hX => by
  have hlt : i < L.length := by omega
  have hp := (g i hlt).page; have hsl := (g i hlt).slot; simp only [rc] at hp hsl; have ih := Xm7 g hl d (i + 1) k (Ut L X i) (by omega) (by omega) (PI hX g i hlt); rw [Ti _ _ hlt, List.foldl_cons, XL.l0, if_pos (by omega), if_pos (by omega), OY, Option.bind_some, Xcq (by omega) (by omega)]
  have e : (i : Int) + 1 = ((i + 1 : Nat) : Int) := by omega
  rw [e]
  have hst : Ut L X i = if PH (Xa L (i : Int)).f0 = true ∧ (Xb X (Xa L (i : Int)).f2).f0 < ((i + 1 : Nat) : Int) then X.set (Xa L (i : Int)).f2.toNat (doB (Xb X (Xa L (i : Int)).f2) (Xa L (i : Int)).f3 (Xa L (i : Int)).f5 ((i + 1 : Nat) : Int)) else X := by
   unfold Ut
   rw [e]
  cases hc : PH (Xa L (i : Int)).f0 with
  | false =>
   rw [if_neg (by simp)]; rw [hc, if_neg (by simp)] at hst; rw [hst] at ih ⊢
   exact ih
  | true =>
   rw [if_pos rfl, if_pos hp.1, if_pos (by rw [hX.len]; exact hp.2)]
   by_cases hq : (Xb X (Xa L (i : Int)).f2).f0 < ((i + 1 : Nat) : Int)
   ·have h3 : (Xb X (Xa L (i : Int)).f2).f2.length = 3 := hX.ok _ hp.1 hp.2
    rw [if_pos hq, do_f _ _ _ _ _ _ _ _ _ _ h3 hsl.2, Option.bind_some]; rw [hc, if_pos ⟨rfl, hq⟩] at hst; rw [hst] at ih ⊢; exact ih
   ·rw [if_neg hq]
    rw [hc, if_neg (fun h => hq h.2)] at hst; rw [hst] at ih ⊢; exact ih
theorem Wz {D : List Pg} (hD : V3 D) {L : List Rc} (h : YP L = true) (k : Nat) (hk : 200 ≤ k) : XL.f k D L = some (XE D L) := by
 have hl := ZK h
 unfold XL.f XE
 rw [Xm6 hD k (by omega), Option.bind_some]; have := Xm7 (JB h) (by omega) L.length 0 k D (by omega) (by omega) hD
 simpa using this
theorem BI {α β : Type} (P : α → Prop) (f : α → β → α) : ∀ (l : List β) (x : α), P x → (∀ y b, b ∈ l → P y → P (f y b)) → P (l.foldl f x)
 | [], x, h, _ => h
 | b :: l, x, h, hs => BI P f l (f x b) (hs x b (by simp) h) (fun y c hc => hs y c (List.mem_cons_of_mem _ hc))
theorem Uw {D : List Pg} (hD : V3 D) {L : List Rc} (h : YP L = true) : V3 (XE D L) :=
 BI V3 (Ut L) _ D hD (fun y b hb hy => PI hy (JB h) b (by simpa using hb))
theorem XkH {D : List Pg} (hD : V3 D) {L : List Rc} (h : YP L = true) (p : Int) (h0 : 0 ≤ p) (h1 : p < 5) : (pg D p).f0 ≤ (pg (XE D L) p).f0 := by
 refine (BI (fun X => V3 X ∧ (pg D p).f0 ≤ (pg X p).f0) (Ut L) _ D ⟨hD, Int.le_refl _⟩ (fun y b hb hy => ⟨PI hy.1 (JB h) b (by simpa using hb), ?_⟩)).2; have hp := (JB h b (by simpa using hb)).page
 unfold Ut
 split
 ·rename_i hc
  rw [pg, pg, PK y _ p _ hp.1 (by rw [hy.1.len]; exact hp.2) h0]
  split
  ·rename_i e
   rw [Xi5]; have := hy.2; rw [e] at this ⊢; have h3 := hc.2; simp only [pg] at this h3 ⊢; omega
  ·exact hy.2
 ·exact hy.2
theorem XkI {a b : Pg} : VC a b = true ↔ a.f0 = b.f0 ∧ a.f1 = b.f1 ∧ a.f2 = b.f2 := by
 unfold VC
 simp [and_assoc]
end Go.Proofs.YtphnphmbfogmlaaGreat.T
