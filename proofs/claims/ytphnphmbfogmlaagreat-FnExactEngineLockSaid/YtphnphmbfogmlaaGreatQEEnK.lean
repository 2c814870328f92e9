import Derived.Test.YtphnphmbfogmlaaGreatQEByq
import Derived.Test.YtphnphmbfogmlaaGreatQEPrGood
import Derived.Test.YtphnphmbfogmlaaGreatQEEnP
import Derived.Test.YtphnphmbfogmlaaGreatQEL2
import Derived.Test.YtphnphmbfogmlaaGreatQEPrFresh
import Derived.Test.YtphnphmbfogmlaaGreatQEPrRedo
import Derived.Test.YtphnphmbfogmlaaGreatQEUndS
namespace Go.Proofs.YtphnphmbfogmlaaGreat.T
open Go.RowKit Go.PW Go.Proofs.YtphnphmbfogmlaaGreat.Pr
set_option linter.unusedSimpArgs false
set_option linter.unusedVariables false
theorem XyC {j : Nat} (h1 : j ≤ 1000000) : wrap64 ((j : Int) + 1 - 1) = (j : Int) := by rw [T.wrap_small (by omega) (by omega)]; omega
theorem XfS {x : Int} (h0 : 0 ≤ x) (h1 : x ≤ 1000000) : wrap64 (x + 1) = x + 1 := T.wrap_small (by omega) (by omega)
theorem XiB {l : List Rc} (g : Good l) (hl : l.length ≤ 160) : ∀ (n k : Nat) (a : Int), a ≤ (n : Int) → a ≤ (l.length : Int) → 2 * n + 1 ≤ k → XO.l0 k l a = some (ZN l n a)
 | 0, k + 1, a, h, _, _ => by rw [XO.l0, if_neg (by omega), ZN]
 | n + 1, k + 1, a, h, h2, hk => by
  rw [XO.l0, ZN]
  by_cases ha : 0 < a
  ·obtain ⟨j, rfl⟩ := P8 ha
   have hp := (g j (by omega)).Gb (by omega); have hn := (g j (by omega)).next
   obtain ⟨k2, rfl⟩ : ∃ k2, k = k2 + 1 := ⟨k - 1, by omega⟩
   have ih7 := XiB g hl n k2 (rc l (j : Int)).f7 (by omega) (by omega) (by omega); have ih6 := XiB g hl n k2 (rc l (j : Int)).f6 (by omega) (by omega) (by omega); rw [if_pos ha, if_pos ha, XyC (by omega), show (j : Int) + 1 - 1 = (j : Int) by omega, if_pos (by omega), if_pos (by omega)]; simp only [rc] at hp hn ih7 ih6 ⊢
   by_cases h1 : (Xa l (j : Int)).f0 = 1
   ·rw [if_pos h1, if_pos (Or.inl h1), XO.j1, if_pos (beq_iff_eq.mpr h1)]
   ·rw [if_neg h1, XO.j1]
    by_cases h2 : (Xa l (j : Int)).f0 = 2
    ·rw [if_pos (beq_iff_eq.mpr h2), if_pos (Or.inr h2)]
    ·rw [if_neg (show ¬ ((Xa l (j : Int)).f0 == 2) = true from fun h => h2 (beq_iff_eq.mp h)), if_neg (show ¬ ((Xa l (j : Int)).f0 = 1 ∨ (Xa l (j : Int)).f0 = 2) from fun h => h.elim h1 h2)]
     by_cases h6 : (Xa l (j : Int)).f0 = 6
     ·rw [if_pos h6, if_pos h6]
      exact ih7
     ·rw [if_neg h6, if_neg h6]
      exact ih6
  ·rw [if_neg (by omega), if_neg ha]
theorem Qh {l : List Rc} (g : Good l) (hl : l.length ≤ 160) (k : Nat) (a : Int) (ha : a ≤ (l.length : Int)) (hk : 400 ≤ k) : XO.f k l a = some (ZN l l.length a) :=
 XiB g hl l.length k a ha ha (by omega)
theorem XqE {l : List Rc} (hl : l.length ≤ 160) (t : Int) (k : Nat) (hk : 400 ≤ k) : Y2.f k l t = some (lastB l t) := RS l t (by omega) k (by omega)
theorem Xe9 {l : List Rc} (g : Good l) (hl : l.length ≤ 160) (x4 r : Int) (K : Nat) : ∀ (n : Nat) (a x3 : Int), a ≤ (n : Int) → a ≤ (l.length : Int) → 0 ≤ x3 → x3 + n ≤ 1000 → (∀ k, K ≤ k → XJ.l0 k l (x3 + (KU l n a : Int)) (wrap64 (x4 + 1)) = some r) → ∀ k, K + 500 + n ≤ k → XJ.l1 k l x3 x4 (ZN l l.length a) = some r
 | 0, a, x3, ha, hl2, h0, h1, hr, k, hk => by
  obtain ⟨k2, rfl⟩ : ∃ k2, k = k2 + 1 := ⟨k - 1, by omega⟩
  have hb := VV g l.length a (rc l (a - 1)).f1 hl2 (fun _ => rfl); rw [XJ.l1, if_neg (by omega)]; have := hr k2 (by omega)
  simpa [KU] using this
 | n + 1, a, x3, ha, hl2, h0, h1, hr, k, hk => by
  obtain ⟨k2, rfl⟩ : ∃ k2, k = k2 + 1 := ⟨k - 1, by omega⟩
  have hf : ZN l (n + 1) a = ZN l l.length a := Wi g _ _ a ha hl2 hl2; rw [KU, hf] at hr; rw [XJ.l1]
  by_cases hb : 0 < ZN l l.length a
  ·have bp := Sk g hl2 hb
   rw [if_pos hb] at hr; rw [if_pos hb]; obtain ⟨j, hj⟩ := P8 hb; rw [hj] at hr bp ⊢; rw [show (j : Int) + 1 - 1 = (j : Int) by omega] at hr bp; rw [XyC (by omega), if_pos (by omega), if_pos (by omega)]
   change (XO.f k2 l (rc l (j : Int)).f6).bind _ = some r
   rw [Qh g hl k2 _ (by omega) (by omega), Option.bind_some, XfS h0 (by omega)]; refine Xe9 g hl x4 r K n (rc l (j : Int)).f6 (x3 + 1) (by omega) (by omega) (by omega) (by omega) (fun k hk => ?_) k2 (by omega); have := hr k hk; rw [show x3 + 1 + (KU l n (rc l (j : Int)).f6 : Int) = x3 + ((KU l n (rc l (j : Int)).f6 + 1 : Nat) : Int) by omega]; exact this
  ·rw [if_neg hb] at hr
   rw [if_neg hb]; have := hr k2 (by omega)
   simpa using this
theorem Xe7 {l : List Rc} : ∀ (n : Nat) (a : Int), KU l n a ≤ n
 | 0, _ => by simp [KU]
 | n + 1, a => by
  rw [KU]
  split
  ·have := Xe7 (l := l) n (rc l (ZN l (n + 1) a - 1)).f6
   omega
  ·omega
theorem XeA {l : List Rc} (g : Good l) (hl : l.length ≤ 160) (x4 x3 r : Int) (h4 : 1 ≤ x4 ∧ x4 ≤ 3) (h0 : 0 ≤ x3) (h1 : x3 ≤ 600) (K : Nat) (hr : ∀ k, K ≤ k → XJ.l0 k l (x3 + (RQ l x4 : Int)) (x4 + 1) = some r) : ∀ k, K + 1100 ≤ k → XJ.l0 k l x3 x4 = some r := by
 intro k hk
 obtain ⟨k2, rfl⟩ : ∃ k2, k = k2 + 2 := ⟨k - 2, by omega⟩
 have hb := Ff l x4; have hb0 := MB l x4; have w4 : wrap64 (x4 + 1) = x4 + 1 := XfS (by omega) (by omega); rw [XJ.l0, if_pos (by omega), XqE hl x4 _ (by omega), Option.bind_some]
 unfold RQ at hr
 by_cases h : 0 < lastB l x4
 ·rw [if_pos h] at hr
  rw [if_pos h, XJ.j1, Qh g hl _ _ hb (by omega), Option.bind_some, XfS h0 (by omega)]; refine Xe9 g hl x4 r K l.length (lastB l x4) (x3 + 1) hb hb (by omega) (by omega) (fun k hk => ?_) k2 (by omega); rw [w4, show x3 + 1 + (KU l l.length (lastB l x4) : Int) = x3 + ((KU l l.length (lastB l x4) + 1 : Nat) : Int) by omega]; exact hr k hk
 ·rw [if_neg h] at hr
  rw [if_neg h, XJ.j1, Qh g hl _ _ hb (by omega), Option.bind_some]
  have h0' : lastB l x4 = 0 := by omega
  have hc : KU l l.length (lastB l x4) = 0 := by
   rw [h0']; have hb2 := VV g l.length 0 (rc l (0 - 1)).f1 (by omega) (fun _ => rfl)
   cases hn : l.length with
   | zero => rfl
   | succ m =>
    rw [KU, if_neg]; rw [← hn]; omega
  refine Xe9 g hl x4 r K l.length (lastB l x4) x3 hb hb (by omega) (by omega) (fun k hk => ?_) k2 (by omega); rw [w4, hc]; exact hr k hk
theorem P9 {l : List Rc} (hl : l.length ≤ 160) (t : Int) : RQ l t ≤ 161 := by
 unfold RQ
 split
 ·have := Xe7 (l := l) l.length (lastB l t)
  omega
 ·omega
theorem XyD {l : List Rc} (g : Good l) (hl : l.length ≤ 160) (k : Nat) (hk : 4000 ≤ k) : XJ.f k l = some (MN l : Int) := by
 have n1 := P9 hl 1; have n2 := P9 hl 2
 unfold XJ.f MN
 refine XeA g hl 1 0 _ (by omega) (by omega) (by omega) 2300 (fun k hk => ?_) k (by omega); refine XeA g hl 2 _ _ (by omega) (by omega) (by omega) 1150 (fun k hk => ?_) k (by omega); refine XeA g hl 3 _ _ (by omega) (by omega) (by omega) 1 (fun k hk => ?_) k (by omega)
 obtain ⟨k2, rfl⟩ : ∃ k2, k = k2 + 1 := ⟨k - 1, by omega⟩
 rw [XJ.l0, if_neg (by omega)]
 congr 1
 omega
theorem XfV {l : List Rc} (h : Za l = true) (i : Nat) (hi : i < l.length) : JB l i = true := by
 unfold Za at h
 simp only [Bool.and_eq_true, List.all_eq_true] at h; exact h.2 i (by simpa using hi)
theorem XoL {l : List Rc} {i n : Nat} (hi : i < n) : JB (l.take n) i = JB l i := by
 have e : ∀ j : Int, 0 ≤ j → j < (n : Int) → Xa (l.take n) j = Xa l j := fun j h0 h1 => OC l n j h0 h1
 unfold JB
 rw [e (i : Int) (by omega) (by omega), List.take_take, Nat.min_eq_left (by omega)]
 by_cases h7 : (Xa l (i : Int)).f7 ≤ (i : Int)
 ·by_cases h0 : (Xa l (i : Int)).f7 ≤ 0
  ·rw [decide_eq_true h0, Bool.true_or, Bool.true_or]
  ·rw [e _ (by omega) (by omega)]
 ·rw [decide_eq_false h7, Bool.and_false, Bool.false_and, Bool.false_and]
theorem Qi {l : List Rc} (h : Za l = true) (n : Nat) : Za (l.take n) = true := by
 have hl := ZY h
 unfold Za
 rw [Bool.and_eq_true, decide_eq_true_eq, List.all_eq_true]; refine ⟨by rw [List.length_take]; omega, fun i hi => ?_⟩; rw [List.mem_range, List.length_take] at hi; rw [XoL (by omega)]; exact XfV h i (by omega)
theorem RO (D : List S56) (p i : Int) (x : S56) (h0 : 0 ≤ p) (h1 : p < (D.length : Int)) (hi : 0 ≤ i) : Xb (D.set p.toNat x) i = if i = p then x else Xb D i := by
 unfold Xb
 rw [List.getD_eq_getElem?_getD, List.getD_eq_getElem?_getD, List.getElem?_set]
 by_cases h : i = p
 ·subst h
  rw [if_pos rfl, if_pos rfl, if_pos (by omega)]
  rfl
 ·rw [if_neg (by omega), if_neg h]
theorem XqF (a b : Int) (l : List Int) (h : l.length < 17592186044416) : JZ.f a b l = some (a, b, l) := by
 unfold JZ.f
 rw [Option.bind_some, if_pos (by simpa using h)]
 rfl
theorem XfW {k tx p s o n pv nx : Int} (h : VQ k tx p s o n pv nx = true) : (1 ≤ tx ∧ tx ≤ 3) ∧ (0 ≤ p ∧ p < 5) ∧ (-1 ≤ s ∧ s < 3) ∧ 0 ≤ nx := by
 unfold VQ at h
 simp only [Bool.and_eq_true] at h; obtain ⟨⟨h1, ht⟩, _⟩ := h; have ht' := DF.mp ht; refine ⟨ht', ?_⟩
 have k4 : ∀ x : Int, inB x 0 4 = true → 0 ≤ x ∧ x < 5 := fun x hx => by have := DF.mp hx; omega
 have k2 : ∀ x : Int, inB x 0 2 = true → -1 ≤ x ∧ x < 3 := fun x hx => by have := DF.mp hx; omega
 have k3 : ∀ x : Int, inB x (-1) 2 = true → -1 ≤ x ∧ x < 3 := fun x hx => by have := DF.mp hx; omega
 split at h1
 ·simp only [Bool.and_eq_true, beq_iff_eq] at h1
  exact ⟨k4 _ h1.1.1.1.1, k2 _ h1.1.1.1.2, by omega⟩
 ·split at h1
  ·simp only [Bool.and_eq_true, beq_iff_eq] at h1
   exact ⟨k4 _ h1.1.1.1.1, by omega, by omega⟩
  ·split at h1
   ·simp only [Bool.and_eq_true, beq_iff_eq] at h1
    exact ⟨k4 _ h1.1.1.1.1, by omega, by omega⟩
   ·split at h1
    ·simp only [Bool.and_eq_true, beq_iff_eq] at h1
     omega
    ·split at h1
     ·simp only [Bool.and_eq_true, beq_iff_eq] at h1
      have := DF.mp h1.2; exact ⟨k4 _ h1.1.1.1.1, k3 _ h1.1.1.1.2, by omega⟩
     ·exact absurd h1 (by simp)
theorem JY {l : List Rc} (h : Za l = true) : Good l := fun i hi => by
 have h1 := XfV h i hi
 unfold JB at h1
 simp only [Bool.and_eq_true, beq_iff_eq, Bool.or_eq_true, decide_eq_true_eq] at h1; obtain ⟨⟨⟨h2, h3⟩, h4⟩, h5⟩ := h1; obtain ⟨a, b, c, d⟩ := XfW h2; exact ⟨a, b, c, h3, ⟨d, h4⟩, fun h0 => h5.elim (fun h6 => by simp only [rc] at h0; omega) id⟩
theorem XfU {l : List Rc} (hl : l.length ≤ 160) : MN l ≤ 483 := by
 have n1 := P9 hl 1; have n2 := P9 hl 2; have n3 := P9 hl 3
 unfold MN
 omega
structure V3 (D : List Pg) : Prop where
 len : D.length = 5
 ok : ∀ i : Int, 0 ≤ i → i < 5 → (pg D i).f2.length = 3
theorem V3.set {D : List Pg} (h : V3 D) {p : Int} (h0 : 0 ≤ p) (h1 : p < 5) {x : Pg} (hx : x.f2.length = 3) : V3 (D.set p.toNat x) := by
 refine ⟨by rw [List.length_set]; exact h.len, fun i hi hi2 => ?_⟩; rw [pg, RO D p i x h0 zb91 hi]
 split
 ·exact hx
 ·exact h.ok i hi hi2
theorem RU {D : List Pg} (h : JG D = true) (p : Int) (h0 : 0 ≤ p) (h1 : p < 5) : RP (pg D p) = true := by
 unfold JG at h
 simp only [Bool.and_eq_true, beq_iff_eq, Bool.not_eq_true'] at h
 have hlt : p.toNat < D.length := by omega
 cases hb : RP (pg D p) with
 | true => rfl
 | false =>
  have h2 : D.any Uo = true := by
   rw [List.any_eq_true]; refine ⟨D[p.toNat], List.getElem_mem hlt, ?_⟩
   have e : pg D p = D[p.toNat] := by
    unfold pg Xb
    rw [List.getD_eq_getElem?_getD, List.getElem?_eq_getElem hlt]
    rfl
   unfold Uo
   rw [← e, hb]
   rfl
  rw [h2] at h; exact absurd h.2 (by simp)
theorem Qj {q : Pg} (h : RP q = true) : q.f2.length = 3 ∧ (0 ≤ q.f1 ∧ q.f1 ≤ 3) ∧ ∀ k : Nat, k < q.f2.length → 0 ≤ rd q.f2 k ∧ rd q.f2 k ≤ 9 := by
 unfold RP at h
 rw [Dw] at h; simp only [Bool.and_eq_true, beq_iff_eq, Bool.not_eq_true'] at h; obtain ⟨⟨⟨_, hb⟩, hl⟩, hv⟩ := h; have hb2 := DF.mp hb; refine ⟨hl, hb2, fun k hk => ?_⟩
 have hx : F7 q.f1 (rd q.f2 k) = false := by
  cases hq : F7 q.f1 (rd q.f2 k) with
  | false => rfl
  | true => rw [XeB hk hq] at hv; exact absurd hv (by simp)
 unfold F7 at hx
 simp only [Bool.or_eq_false_iff, Bool.not_eq_false'] at hx; exact DF.mp hx.1
theorem PG {D : List Pg} (h : JG D = true) : V3 D := by
 refine ⟨?_, fun i h0 h1 => (Qj (RU h i h0 h1)).1⟩
 unfold JG at h
 simp only [Bool.and_eq_true, beq_iff_eq] at h; omega
theorem XfX {D : List Pg} {L : List Rc} (h : preB D (L.take L.length) = true) : JG (XQ D L) = true := by
 rw [List.take_length] at h
 unfold preB at h
 rw [Bool.and_eq_true] at h; exact h.1
theorem XqG {D : List Pg} (h : V3 D) : ∀ (d k i : Nat), i + d = 5 → d + 5 < k → Yq.l0 k D (i : Int) = some (!(D.drop i).any Uo)
 | 0, k + 1, i, hi, _ => by
  rw [Yq.l0, if_neg zb91, List.drop_of_length_le zb91, h.len]
  rfl
 | d + 1, k + 1, i, hi, hk => by
  have hlt : i < D.length := by rw [h.len]; omega
  have e : D[i] = Xb D (i : Int) := by
   unfold Xb
   rw [List.getD_eq_getElem?_getD, Int.toNat_natCast, List.getElem?_eq_getElem hlt]
   rfl
  have h3 : (Xb D (i : Int)).f2.length = 3 := h.ok (i : Int) (by omega) (by omega); rw [Yq.l0, if_pos zb91, if_pos (by omega), Fb _ _ _ (by omega) _ (by omega), Option.bind_some, List.drop_eq_getElem_cons hlt, List.any_cons, e, XfS (by omega) (by omega)]; have ih := XqG h d k (i + 1) (by omega) (by omega); have e2 : Uo (Xb D (i : Int)) = !ZH (Xb D (i : Int)).f0 (Xb D (i : Int)).f1 (Xb D (i : Int)).f2 := rfl; rw [e2]
  cases ZH (Xb D (i : Int)).f0 (Xb D (i : Int)).f1 (Xb D (i : Int)).f2 with
  | true =>
   rw [if_pos rfl]
   exact ih
  | false =>
   rw [if_neg (by simp)]
   rfl
theorem XyE {D : List Pg} (h : V3 D) (k : Nat) (hk : 12 ≤ k) : Yq.f k D = some (JG D) := by
 have h1 := XqG h 5 k 0 (by omega) (by omega)
 unfold Yq.f JG
 rw [h.len]
 simpa using h1
theorem XfY {D : List Pg} (h : V3 D) : ∀ (d i k : Nat), i + d = 5 → d < k → Yy.l0 k D (D.take i) (i : Int) = some D
 | 0, i, k + 1, hi, _ => by
  rw [Yy.l0, if_neg zb91, List.take_of_length_le zb91]
 | d + 1, i, k + 1, hi, hk => by
  have hok : (Xb D (i : Int)).f2.length = 3 := h.ok (i : Int) (by omega) (by omega); rw [Yy.l0, if_pos zb91, if_pos (by omega), XqF _ _ _ (by rw [hok]; omega), Option.bind_some, if_pos (by rw [List.length_take]; have := h.len; omega), XfS (by omega) (by omega)]
  have e : D.take i ++ [(⟨(Xb D (i : Int)).f0, (Xb D (i : Int)).f1, (Xb D (i : Int)).f2⟩ : S56)] = D.take (i + 1) := by
   have hlt : i < D.length := by rw [h.len]; omega
   rw [List.take_succ_eq_append_getElem hlt]
   congr 2
   unfold Xb
   rw [List.getD_eq_getElem?_getD, Int.toNat_natCast, List.getElem?_eq_getElem hlt]
   rfl
  have ih := XfY h d (i + 1) k (by omega) (by omega); rw [← e] at ih; exact ih
theorem XqH {D : List Pg} (h : V3 D) (k : Nat) (hk : 10 ≤ k) : Yy.f k D = some D := XfY h 5 0 k (by omega) (by omega)
theorem Xba (a : Int) : Jg.f a = some (RL a) := by
 unfold Jg.f RL
 by_cases h1 : a = 1
 ·simp [h1]
 ·by_cases h2 : a = 2
  ·simp [h2]
  ·simp [h1, h2]
theorem do_f (q : Pg) (k tx p s o n pv nx lsn : Int) (hl : q.f2.length = 3) (hs : s < 3) : VY.f q.f0 q.f1 q.f2 k tx p s o n pv nx lsn = some ((doB q s n lsn).f0, (doB q s n lsn).f1, (doB q s n lsn).f2) := by
 unfold VY.f doB
 rw [XqF q.f0 q.f1 q.f2 (by omega), Option.bind_some]
 by_cases h : s ≥ 0
 ·rw [if_pos h, if_pos (show 0 ≤ s from h), if_pos (show 0 ≤ s from h), if_pos (by show s < (q.f2.length : Int); omega)]
 ·rw [if_neg h, if_neg (show ¬ 0 ≤ s from h)]
  by_cases h2 : n = 0
  ·rw [if_pos h2, if_pos (by omega), if_pos h2, h2]
   rfl
  ·rw [if_neg h2, if_neg h2]
theorem Xmw (q : Pg) (s n lsn : Int) (h : q.f2.length = 3) : (doB q s n lsn).f2.length = 3 := by
 unfold doB
 split
 ·simpa using h
 ·split
  ·rfl
  ·exact h
theorem Xmq (q : Pg) (s n lsn : Int) : (doB q s n lsn).f0 = lsn := by
 unfold doB
 split
 ·rfl
 ·split <;> rfl
theorem RN {D : List Pg} (h : V3 D) {L : List Rc} (g : Good L) (i : Nat) (hi : i < L.length) : V3 (MM L D i) := by
 unfold MM
 split
 ·have hp := (g i hi).page
  exact h.set hp.1 hp.2 (Xmw _ _ _ _ (h.ok _ hp.1 hp.2))
 ·exact h
theorem Er (n i : Nat) (h : i < n) : (List.range n).drop i = i :: (List.range n).drop (i + 1) := by
 rw [List.drop_eq_getElem_cons (by simpa using h)]
 simp
theorem XqI {L : List Rc} (g : Good L) (hl : L.length ≤ 160) : ∀ (d i k : Nat) (X : List Pg), i + d = L.length → d < k → V3 X → Y0.l0 k L X (i : Int) = some (((List.range L.length).drop i).foldl (MM L) X)
 | 0, i, k + 1, X, hi, _, _ => by
  rw [Y0.l0, if_neg (by omega), List.drop_of_length_le zb133]
  rfl
 | d + 1, i, k + 1, X, hi, hk, hX => by
  have hlt : i < L.length := by omega
  have hp := (g i hlt).page; have hsl := (g i hlt).slot; simp only [rc] at hp hsl; have ih := XqI g hl d (i + 1) k (MM L X i) (by omega) (by omega) (RN hX g i hlt); rw [Er _ _ hlt, List.foldl_cons, Y0.l0, if_pos (by omega), if_pos (by omega), Xba, Option.bind_some, XfS (by omega) (by omega)]
  have e : (i : Int) + 1 = ((i + 1 : Nat) : Int) := by omega
  rw [e]
  have hst : MM L X i = if RL (Xa L (i : Int)).f0 = true ∧ (Xb X (Xa L (i : Int)).f2).f0 < ((i + 1 : Nat) : Int) then X.set (Xa L (i : Int)).f2.toNat (doB (Xb X (Xa L (i : Int)).f2) (Xa L (i : Int)).f3 (Xa L (i : Int)).f5 ((i + 1 : Nat) : Int)) else X := by
   unfold MM
   rw [e]
  cases hc : RL (Xa L (i : Int)).f0 with
  | false =>
   rw [if_neg (by simp)]; rw [hc, if_neg (by simp)] at hst; rw [hst] at ih ⊢
   exact ih
  | true =>
   rw [if_pos rfl, if_pos hp.1, if_pos (by rw [hX.len]; exact hp.2)]
   by_cases hq : (Xb X (Xa L (i : Int)).f2).f0 < ((i + 1 : Nat) : Int)
   ·have h3 : (Xb X (Xa L (i : Int)).f2).f2.length = 3 := hX.ok _ hp.1 hp.2
    rw [if_pos hq, do_f _ _ _ _ _ _ _ _ _ _ h3 hsl.2, Option.bind_some]; rw [hc, if_pos ⟨rfl, hq⟩] at hst; rw [hst] at ih ⊢; exact ih
   ·rw [if_neg hq]
    rw [hc, if_neg (fun h => hq h.2)] at hst; rw [hst] at ih ⊢; exact ih
theorem Qk {D : List Pg} (hD : V3 D) {L : List Rc} (h : Za L = true) (k : Nat) (hk : 200 ≤ k) : Y0.f k D L = some (XQ D L) := by
 have hl := ZY h
 unfold Y0.f XQ
 rw [XqH hD k (by omega), Option.bind_some]; have := XqI (JY h) (by omega) L.length 0 k D (by omega) (by omega) hD
 simpa using this
theorem Ql {α β : Type} (P : α → Prop) (f : α → β → α) : ∀ (l : List β) (x : α), P x → (∀ y b, b ∈ l → P y → P (f y b)) → P (l.foldl f x)
 | [], x, h, _ => h
 | b :: l, x, h, hs => Ql P f l (f x b) (hs x b (by simp) h) (fun y c hc => hs y c (List.mem_cons_of_mem _ hc))
theorem Sm {D : List Pg} (hD : V3 D) {L : List Rc} (h : Za L = true) : V3 (XQ D L) :=
 Ql V3 (MM L) _ D hD (fun y b hb hy => RN hy (JY h) b (by simpa using hb))
theorem XoM {D : List Pg} (hD : V3 D) {L : List Rc} (h : Za L = true) (p : Int) (h0 : 0 ≤ p) (h1 : p < 5) : (pg D p).f0 ≤ (pg (XQ D L) p).f0 := by
 refine (Ql (fun X => V3 X ∧ (pg D p).f0 ≤ (pg X p).f0) (MM L) _ D ⟨hD, Int.le_refl _⟩ (fun y b hb hy => ⟨RN hy.1 (JY h) b (by simpa using hb), ?_⟩)).2; have hp := (JY h b (by simpa using hb)).page
 unfold MM
 split
 ·rename_i hc
  rw [pg, pg, RO y _ p _ hp.1 (by rw [hy.1.len]; exact hp.2) h0]
  split
  ·rename_i e
   rw [Xmq]; have := hy.2; rw [e] at this ⊢; have h3 := hc.2; simp only [pg] at this h3 ⊢; omega
  ·exact hy.2
 ·exact hy.2
theorem XoN {a b : Pg} : VW a b = true ↔ a.f0 = b.f0 ∧ a.f1 = b.f1 ∧ a.f2 = b.f2 := by
 unfold VW
 simp [and_assoc]
end Go.Proofs.YtphnphmbfogmlaaGreat.T
