import Derived.Test.YtphnphmbfogmlaaGreatQEPrLO2
namespace Go.Proofs.YtphnphmbfogmlaaGreat.T
open Go.RowKit Go.PW Go.Proofs.YtphnphmbfogmlaaGreat.Pr
set_option linter.unusedSimpArgs false
set_option linter.unusedVariables false
abbrev Rc := S76
abbrev rc (l : List Rc) (i : Int) : Rc := Xa l i
theorem XyF (l : List Rc) (x : Rc) (i : Int) (h0 : 0 ≤ i) (h : i < (l.length : Int)) : rc (l ++ [x]) i = rc l i := by
 unfold rc Xa
 rw [List.getD_eq_getElem?_getD, List.getD_eq_getElem?_getD, List.getElem?_append_left (by omega)]
theorem XyG (l : List Rc) (x : Rc) : rc (l ++ [x]) (l.length : Int) = x := by
 unfold rc Xa
 rw [List.getD_eq_getElem?_getD, List.getElem?_append_right (by simp)]
 simp
theorem OC (l : List Rc) (n : Nat) (i : Int) (h0 : 0 ≤ i) (h : i < (n : Int)) : rc (l.take n) i = rc l i := by
 unfold rc Xa
 rw [List.getD_eq_getElem?_getD, List.getD_eq_getElem?_getD, List.getElem?_take_of_lt (by omega)]
structure OKr (l : List Rc) (i : Nat) : Prop where
 tx : 1 ≤ (rc l i).f1 ∧ (rc l i).f1 ≤ 3
 page : 0 ≤ (rc l i).f2 ∧ (rc l i).f2 < 5
 slot : -1 ≤ (rc l i).f3 ∧ (rc l i).f3 < 3
 prev : (rc l i).f6 = lastB (l.take i) (rc l i).f1
 next : 0 ≤ (rc l i).f7 ∧ (rc l i).f7 ≤ i
 ntx : 0 < (rc l i).f7 → (rc l ((rc l i).f7 - 1)).f1 = (rc l i).f1
def Good (l : List Rc) : Prop := ∀ i : Nat, i < l.length → OKr l i
theorem OKr.Gb {l : List Rc} {i : Nat} (h : OKr l i) (hi : i < l.length) : 0 ≤ (rc l i).f6 ∧ (rc l i).f6 ≤ i := by
 rw [h.prev]; have := Ff (l.take i) (rc l i).f1; rw [List.length_take, Nat.min_eq_left (by omega)] at this; exact ⟨MB _ _, this⟩
theorem OKr.cut {l : List Rc} {i n : Nat} (h : OKr l i) (hi : i < n) : OKr (l.take n) i := by
 have e : rc (l.take n) i = rc l i := OC l n i (by omega) (by omega); refine ⟨by rw [e]; exact h.tx, by rw [e]; exact h.page, by rw [e]; exact h.slot, by rw [e, List.take_take, Nat.min_eq_left (by omega)]; exact h.prev, by rw [e]; exact h.next, ?_⟩; rw [e]; intro h0; have hn := h.next; rw [OC l n _ (by omega) (by omega)]; exact h.ntx h0
theorem Good.take {l : List Rc} (h : Good l) (n : Nat) : Good (l.take n) := fun i hi => by
 rw [List.length_take] at hi; exact (h i (by omega)).cut (by omega)
theorem Xm2 (t : Int) : ∀ l : List Rc, 0 < PK t l → (rc l.reverse (PK t l - 1)).f1 = t
 | [], h => by simp [PK] at h
 | x :: l, h => by
  rw [List.reverse_cons]
  unfold PK at h ⊢
  by_cases h1 : x.f1 = t
  ·rw [if_pos h1] at h ⊢
   split at h
   ·omega
   ·rename_i hk
    rw [if_neg hk]; have := XyG l.reverse x; rw [List.length_reverse] at this; rw [show ((l.length : Int) + 1 - 1) = (l.length : Int) by omega, this]; exact h1
  ·rw [if_neg h1] at h ⊢
   have hb := RX t l; rw [XyF _ _ _ (by omega) (by rw [List.length_reverse]; omega)]; exact Xm2 t l h
theorem XqN {l : List Rc} {t : Int} (h : 0 < lastB l t) : (rc l (lastB l t - 1)).f1 = t := by
 have := Xm2 t l.reverse h; rw [List.reverse_reverse] at this; exact this
theorem OKr.ptx {l : List Rc} {i : Nat} (h : OKr l i) (hi : i < l.length) (h0 : 0 < (rc l i).f6) : (rc l ((rc l i).f6 - 1)).f1 = (rc l i).f1 := by
 have hb := h.Gb hi; have e := h.prev; have := XqN (l := l.take i) (t := (rc l i).f1) (by rw [← e]; exact h0); rw [← e, OC l i _ (by omega) (by omega)] at this; exact this
def ZN (l : List Rc) : Nat → Int → Int
 | 0, _ => 0
 | n + 1, a => if 0 < a then (if (rc l (a - 1)).f0 = 1 ∨ (rc l (a - 1)).f0 = 2 then a else if (rc l (a - 1)).f0 = 6 then ZN l n (rc l (a - 1)).f7 else ZN l n (rc l (a - 1)).f6) else 0
theorem P8 {a : Int} (h : 0 < a) : ∃ j : Nat, a = (j : Int) + 1 := ⟨(a - 1).toNat, by omega⟩
theorem Wi {l : List Rc} (g : Good l) : ∀ (n m : Nat) (a : Int), a ≤ (n : Int) → a ≤ (m : Int) → a ≤ (l.length : Int) → ZN l n a = ZN l m a
 | 0, 0, _, _, _, _ => rfl
 | 0, m + 1, a, h, _, _ => by
  rw [ZN, ZN, if_neg (by omega)]
 | n + 1, 0, a, _, h, _ => by
  rw [ZN, ZN, if_neg (by omega)]
 | n + 1, m + 1, a, h1, h2, hl => by
  rw [ZN, ZN]
  by_cases ha : 0 < a
  ·obtain ⟨j, rfl⟩ := P8 ha
   rw [show (j : Int) + 1 - 1 = (j : Int) by omega]; have hp := (g j (by omega)).Gb (by omega); have hn := (g j (by omega)).next; rw [if_pos ha, if_pos ha, Wi g n m _ (by omega) (by omega) (by omega), Wi g n m (rc l (j : Int)).f6 (by omega) (by omega) (by omega)]
  ·rw [if_neg ha, if_neg ha]
theorem VV {l : List Rc} (g : Good l) : ∀ (n : Nat) (a : Int) (t : Int), a ≤ (l.length : Int) → (0 < a → (rc l (a - 1)).f1 = t) → 0 ≤ ZN l n a ∧ ZN l n a ≤ max a 0 ∧ (0 < ZN l n a → (rc l (ZN l n a - 1)).f1 = t ∧ ((rc l (ZN l n a - 1)).f0 = 1 ∨ (rc l (ZN l n a - 1)).f0 = 2))
 | 0, a, t, _, _ => by
  refine ⟨by simp [ZN], by rw [ZN]; omega, fun h => ?_⟩
  simp [ZN] at h
 | n + 1, a, t, hl, ht => by
  rw [ZN]
  by_cases ha : 0 < a
  ·obtain ⟨j, rfl⟩ := P8 ha
   have ht' := ht ha; rw [show (j : Int) + 1 - 1 = (j : Int) by omega] at ht' ⊢; have o := g j (by omega); have hp := o.Gb (by omega); have hn := o.next; rw [if_pos ha]
   by_cases hk : (rc l (j : Int)).f0 = 1 ∨ (rc l (j : Int)).f0 = 2
   ·rw [if_pos hk]
    refine ⟨by omega, by omega, fun _ => ?_⟩; rw [show (j : Int) + 1 - 1 = (j : Int) by omega]; exact ⟨ht', hk⟩
   ·rw [if_neg hk]
    by_cases h6 : (rc l (j : Int)).f0 = 6
    ·rw [if_pos h6]
     have ih := VV g n (rc l (j : Int)).f7 t (by omega) (fun h => (o.ntx h).trans ht'); exact ⟨ih.1, by omega, ih.2.2⟩
    ·rw [if_neg h6]
     have ih := VV g n (rc l (j : Int)).f6 t (by omega) (fun h => (o.ptx (by omega) h).trans ht'); exact ⟨ih.1, by omega, ih.2.2⟩
  ·rw [if_neg ha]
   exact ⟨by omega, by omega, fun h => by omega⟩
def KU (l : List Rc) : Nat → Int → Nat
 | 0, _ => 0
 | n + 1, a => if 0 < ZN l (n + 1) a then KU l n (rc l (ZN l (n + 1) a - 1)).f6 + 1 else 0
theorem Sk {l : List Rc} (g : Good l) {n : Nat} {a : Int} (hl : a ≤ (l.length : Int)) (h : 0 < ZN l n a) : 0 ≤ (rc l (ZN l n a - 1)).f6 ∧ (rc l (ZN l n a - 1)).f6 < a ∧ ZN l n a ≤ a := by
 have b := VV g n a (rc l (a - 1)).f1 hl (fun _ => rfl)
 have ha : 0 < a := by omega
 obtain ⟨j, hj⟩ := P8 h; rw [hj] at b ⊢; rw [show (j : Int) + 1 - 1 = (j : Int) by omega]; have hp := (g j (by omega)).Gb (by omega); omega
def RQ (l : List Rc) (t : Int) : Nat := if 0 < lastB l t then KU l l.length (lastB l t) + 1 else 0
def MN (l : List Rc) : Nat := RQ l 1 + RQ l 2 + RQ l 3
def Fits (l : List Rc) : Prop := ∀ n : Nat, n ≤ l.length → n + MN (l.take n) ≤ 150
def XiE (l : List Rc) : Prop := Good l ∧ Fits l
theorem XiE.take {l : List Rc} (h : XiE l) (n : Nat) : XiE (l.take n) := by
 refine ⟨h.1.take n, fun m hm => ?_⟩; rw [List.length_take] at hm; rw [List.take_take, Nat.min_eq_left (by omega)]; exact h.2 m (by omega)
theorem XiE.len {l : List Rc} (h : XiE l) : l.length + MN l ≤ 150 := by
 have := h.2 l.length (Nat.le_refl _)
 rwa [List.take_length] at this
theorem XiE.nil : XiE [] := by
 refine ⟨fun i hi => by simp at hi, fun n hn => ?_⟩
 simp at hn
 subst hn
 decide
end Go.Proofs.YtphnphmbfogmlaaGreat.T
