import Derived.Test.YtcefiblpnegepaaQALOpenP
namespace Go.Proofs.Ytcefiblpnegepaa.T
open Go.RowKit Go.PW Go.Proofs.Ytcefiblpnegepaa.Pr
set_option linter.unusedSimpArgs false
set_option linter.unusedVariables false
abbrev Rc := S41
abbrev rc (l : List Rc) (i : Int) : Rc := Xa l i
theorem WH (l : List Rc) (x : Rc) (i : Int) (h0 : 0 ≤ i) (h : i < (l.length : Int)) : rc (l ++ [x]) i = rc l i := by
  unfold rc Xa
  rw [List.getD_eq_getElem?_getD, List.getD_eq_getElem?_getD, List.getElem?_append_left (by omega)]
theorem EB (l : List Rc) (x : Rc) : rc (l ++ [x]) (l.length : Int) = x := by
  unfold rc Xa
  rw [List.getD_eq_getElem?_getD, List.getElem?_append_right (by simp)]
  simp
theorem Lr (l : List Rc) (n : Nat) (i : Int) (h0 : 0 ≤ i) (h : i < (n : Int)) : rc (l.take n) i = rc l i := by
  unfold rc Xa
  rw [List.getD_eq_getElem?_getD, List.getD_eq_getElem?_getD, List.getElem?_take_of_lt (by omega)]
structure OKr (l : List Rc) (i : Nat) : Prop where
  tx : 1 ≤ (rc l i).f1 ∧ (rc l i).f1 ≤ 3
  page : 0 ≤ (rc l i).f2 ∧ (rc l i).f2 < 5
  slot : -1 ≤ (rc l i).f3 ∧ (rc l i).f3 < 3
  prev : (rc l i).f6 = lastB (l.take i) (rc l i).f1
  next : 0 ≤ (rc l i).f7 ∧ (rc l i).f7 ≤ i
  ntx : 0 < (rc l i).f7 → (rc l ((rc l i).f7 - 1)).f1 = (rc l i).f1
def Good (l : List Rc) : Prop := ∀ i : Nat, i < l.length → OKr l i
theorem OKr.Di {l : List Rc} {i : Nat} (h : OKr l i) (hi : i < l.length) : 0 ≤ (rc l i).f6 ∧ (rc l i).f6 ≤ i := by
  rw [h.prev]; have := VK (l.take i) (rc l i).f1; rw [List.length_take, Nat.min_eq_left (by omega)] at this; exact ⟨Mi _ _, this⟩
theorem WI (l : List Rc) (x : Rc) (n : Nat) (h : n ≤ l.length) : (l ++ [x]).take n = l.take n := by
  rw [List.take_append_of_le_length h]
theorem OKr.app {l : List Rc} {i : Nat} (h : OKr l i) (hi : i < l.length) (x : Rc) : OKr (l ++ [x]) i := by
  have e : rc (l ++ [x]) i = rc l i := WH l x i (by omega) (by omega); refine ⟨by rw [e]; exact h.tx, by rw [e]; exact h.page, by rw [e]; exact h.slot, by rw [e, WI _ _ _ (by omega)]; exact h.prev, by rw [e]; exact h.next, ?_⟩; rw [e]; intro h0; have hn := h.next; rw [WH l x _ (by omega) (by omega)]; exact h.ntx h0
theorem OKr.cut {l : List Rc} {i n : Nat} (h : OKr l i) (hi : i < n) : OKr (l.take n) i := by
  have e : rc (l.take n) i = rc l i := Lr l n i (by omega) (by omega); refine ⟨by rw [e]; exact h.tx, by rw [e]; exact h.page, by rw [e]; exact h.slot, by rw [e, List.take_take, Nat.min_eq_left (by omega)]; exact h.prev, by rw [e]; exact h.next, ?_⟩; rw [e]; intro h0; have hn := h.next; rw [Lr l n _ (by omega) (by omega)]; exact h.ntx h0
theorem Good.take {l : List Rc} (h : Good l) (n : Nat) : Good (l.take n) := fun i hi => by
  rw [List.length_take] at hi; exact (h i (by omega)).cut (by omega)
theorem XdB (t : Int) : ∀ l : List Rc, 0 < Fy t l → (rc l.reverse (Fy t l - 1)).f1 = t
  | [], h => by simp [Fy] at h
  | x :: l, h => by
    rw [List.reverse_cons]
    unfold Fy at h ⊢
    by_cases h1 : x.f1 = t
    · rw [if_pos h1] at h ⊢
      split at h
      · omega
      · rename_i hk
        rw [if_neg hk]; have := EB l.reverse x; rw [List.length_reverse] at this; rw [show ((l.length : Int) + 1 - 1) = (l.length : Int) by omega, this]; exact h1
    · rw [if_neg h1] at h ⊢
      have hb := WJ t l; rw [WH _ _ _ (by omega) (by rw [List.length_reverse]; omega)]; exact XdB t l h
theorem EC {l : List Rc} {t : Int} (h : 0 < lastB l t) : (rc l (lastB l t - 1)).f1 = t := by
  have := XdB t l.reverse h; rw [List.reverse_reverse] at this; exact this
theorem OKr.ptx {l : List Rc} {i : Nat} (h : OKr l i) (hi : i < l.length) (h0 : 0 < (rc l i).f6) : (rc l ((rc l i).f6 - 1)).f1 = (rc l i).f1 := by
  have hb := h.Di hi; have e := h.prev; have := EC (l := l.take i) (t := (rc l i).f1) (by rw [← e]; exact h0); rw [← e, Lr l i _ (by omega) (by omega)] at this; exact this
def ZI (l : List Rc) : Nat → Int → Int
  | 0, _ => 0
  | n + 1, a => if 0 < a then (if (rc l (a - 1)).f0 = 1 ∨ (rc l (a - 1)).f0 = 2 then a else if (rc l (a - 1)).f0 = 6 then ZI l n (rc l (a - 1)).f7 else ZI l n (rc l (a - 1)).f6) else 0
theorem M5 {a : Int} (h : 0 < a) : ∃ j : Nat, a = (j : Int) + 1 := ⟨(a - 1).toNat, by omega⟩
theorem SB {l : List Rc} (g : Good l) : ∀ (n m : Nat) (a : Int), a ≤ (n : Int) → a ≤ (m : Int) → a ≤ (l.length : Int) → ZI l n a = ZI l m a
  | 0, 0, _, _, _, _ => rfl
  | 0, m + 1, a, h, _, _ => by
    rw [ZI, ZI, if_neg (by omega)]
  | n + 1, 0, a, _, h, _ => by
    rw [ZI, ZI, if_neg (by omega)]
  | n + 1, m + 1, a, h1, h2, hl => by
    rw [ZI, ZI]
    by_cases ha : 0 < a
    · obtain ⟨j, rfl⟩ := M5 ha
      rw [show (j : Int) + 1 - 1 = (j : Int) by omega]; have hp := (g j (by omega)).Di (by omega); have hn := (g j (by omega)).next; rw [if_pos ha, if_pos ha, SB g n m _ (by omega) (by omega) (by omega), SB g n m (rc l (j : Int)).f6 (by omega) (by omega) (by omega)]
    · rw [if_neg ha, if_neg ha]
theorem Pb {l : List Rc} (g : Good l) (x : Rc) : ∀ (n : Nat) (a : Int), a ≤ (l.length : Int) → ZI (l ++ [x]) n a = ZI l n a
  | 0, _, _ => rfl
  | n + 1, a, hl => by
    rw [ZI, ZI]
    by_cases ha : 0 < a
    · obtain ⟨j, rfl⟩ := M5 ha
      rw [show (j : Int) + 1 - 1 = (j : Int) by omega]; have hp := (g j (by omega)).Di (by omega); have hn := (g j (by omega)).next; rw [if_pos ha, if_pos ha, WH l x _ (by omega) (by omega), Pb g x n _ (by omega), Pb g x n _ (by omega)]
    · rw [if_neg ha, if_neg ha]
theorem Gq {l : List Rc} (g : Good l) : ∀ (n : Nat) (a : Int) (t : Int), a ≤ (l.length : Int) → (0 < a → (rc l (a - 1)).f1 = t) → 0 ≤ ZI l n a ∧ ZI l n a ≤ max a 0 ∧ (0 < ZI l n a → (rc l (ZI l n a - 1)).f1 = t ∧ ((rc l (ZI l n a - 1)).f0 = 1 ∨ (rc l (ZI l n a - 1)).f0 = 2))
  | 0, a, t, _, _ => by
    refine ⟨by simp [ZI], by rw [ZI]; omega, fun h => ?_⟩
    simp [ZI] at h
  | n + 1, a, t, hl, ht => by
    rw [ZI]
    by_cases ha : 0 < a
    · obtain ⟨j, rfl⟩ := M5 ha
      have ht' := ht ha; rw [show (j : Int) + 1 - 1 = (j : Int) by omega] at ht' ⊢; have o := g j (by omega); have hp := o.Di (by omega); have hn := o.next; rw [if_pos ha]
      by_cases hk : (rc l (j : Int)).f0 = 1 ∨ (rc l (j : Int)).f0 = 2
      · rw [if_pos hk]
        refine ⟨by omega, by omega, fun _ => ?_⟩; rw [show (j : Int) + 1 - 1 = (j : Int) by omega]; exact ⟨ht', hk⟩
      · rw [if_neg hk]
        by_cases h6 : (rc l (j : Int)).f0 = 6
        · rw [if_pos h6]
          have ih := Gq g n (rc l (j : Int)).f7 t (by omega) (fun h => (o.ntx h).trans ht'); exact ⟨ih.1, by omega, ih.2.2⟩
        · rw [if_neg h6]
          have ih := Gq g n (rc l (j : Int)).f6 t (by omega) (fun h => (o.ptx (by omega) h).trans ht'); exact ⟨ih.1, by omega, ih.2.2⟩
    · rw [if_neg ha]
      exact ⟨by omega, by omega, fun h => by omega⟩
def Fg (l : List Rc) : Nat → Int → Nat
  | 0, _ => 0
  | n + 1, a => if 0 < ZI l (n + 1) a then Fg l n (rc l (ZI l (n + 1) a - 1)).f6 + 1 else 0
theorem NH {l : List Rc} (g : Good l) {n : Nat} {a : Int} (hl : a ≤ (l.length : Int)) (h : 0 < ZI l n a) : 0 ≤ (rc l (ZI l n a - 1)).f6 ∧ (rc l (ZI l n a - 1)).f6 < a ∧ ZI l n a ≤ a := by
  have b := Gq g n a (rc l (a - 1)).f1 hl (fun _ => rfl)
  have ha : 0 < a := by omega
  obtain ⟨j, hj⟩ := M5 h; rw [hj] at b ⊢; rw [show (j : Int) + 1 - 1 = (j : Int) by omega]; have hp := (g j (by omega)).Di (by omega); omega
theorem Pd {l : List Rc} (g : Good l) : ∀ (n m : Nat) (a : Int), a ≤ (n : Int) → a ≤ (m : Int) → a ≤ (l.length : Int) → Fg l n a = Fg l m a
  | 0, 0, _, _, _, _ => rfl
  | 0, m + 1, a, h, _, hl => by
    have b := Gq g (m + 1) a (rc l (a - 1)).f1 hl (fun _ => rfl)
    rw [Fg, Fg, if_neg (by omega)]
  | n + 1, 0, a, _, h, hl => by
    have b := Gq g (n + 1) a (rc l (a - 1)).f1 hl (fun _ => rfl)
    rw [Fg, Fg, if_neg (by omega)]
  | n + 1, m + 1, a, h1, h2, hl => by
    rw [Fg, Fg, SB g (n + 1) (m + 1) a h1 h2 hl]
    by_cases h : 0 < ZI l (m + 1) a
    · have b := NH g hl h
      rw [if_pos h, if_pos h, Pd g n m _ (by omega) (by omega) (by omega)]
    · rw [if_neg h, if_neg h]
theorem EE {l : List Rc} (g : Good l) (x : Rc) : ∀ (n : Nat) (a : Int), a ≤ (l.length : Int) → Fg (l ++ [x]) n a = Fg l n a
  | 0, _, _ => rfl
  | n + 1, a, hl => by
    rw [Fg, Fg, Pb g x (n + 1) a hl]
    by_cases h : 0 < ZI l (n + 1) a
    · have b := NH g hl h
      rw [if_pos h, if_pos h, WH l x _ (by omega) (by omega), EE g x n _ (by omega)]
    · rw [if_neg h, if_neg h]
def VV (l : List Rc) (t : Int) : Nat := if 0 < lastB l t then Fg l l.length (lastB l t) + 1 else 0
def Uu (l : List Rc) : Nat := VV l 1 + VV l 2 + VV l 3
def Fits (l : List Rc) : Prop := ∀ n : Nat, n ≤ l.length → n + Uu (l.take n) ≤ 150
def RS (l : List Rc) : Prop := Good l ∧ Fits l
theorem RS.take {l : List Rc} (h : RS l) (n : Nat) : RS (l.take n) := by
  refine ⟨h.1.take n, fun m hm => ?_⟩; rw [List.length_take] at hm; rw [List.take_take, Nat.min_eq_left (by omega)]; exact h.2 m (by omega)
theorem RS.len {l : List Rc} (h : RS l) : l.length + Uu l ≤ 150 := by
  have := h.2 l.length (Nat.le_refl _)
  rwa [List.take_length] at this
theorem RS.nil : RS [] := by
  refine ⟨fun i hi => by simp at hi, fun n hn => ?_⟩
  simp at hn
  subst hn
  decide
structure Xes (l : List Rc) (x : Rc) : Prop where
  tx : 1 ≤ x.f1 ∧ x.f1 ≤ 3
  page : 0 ≤ x.f2 ∧ x.f2 < 5
  slot : -1 ≤ x.f3 ∧ x.f3 < 3
  prev : x.f6 = lastB l x.f1
  next : 0 ≤ x.f7 ∧ x.f7 ≤ (l.length : Int)
  ntx : 0 < x.f7 → (rc l (x.f7 - 1)).f1 = x.f1
theorem Good.app {l : List Rc} (g : Good l) {x : Rc} (h : Xes l x) : Good (l ++ [x]) := fun i hi => by
  rw [List.length_append, List.length_singleton] at hi
  by_cases e : i < l.length
  · exact (g i e).app e x
  · obtain rfl : i = l.length := by omega
    refine ⟨?_, ?_, ?_, ?_, ?_, ?_⟩
    all_goals rw [EB]
    · exact h.tx
    · exact h.page
    · exact h.slot
    · rw [WI _ _ _ (Nat.le_refl _), List.take_length]
      exact h.prev
    · exact h.next
    · intro h0
      have := h.next; rw [WH l x _ (by omega) (by omega)]; exact h.ntx h0
theorem RS.app {l : List Rc} (g : RS l) {x : Rc} (h : Xes l x) (hf : l.length + 1 + Uu (l ++ [x]) ≤ 150) : RS (l ++ [x]) := by
  refine ⟨g.1.app h, fun n hn => ?_⟩; rw [List.length_append, List.length_singleton] at hn
  by_cases e : n ≤ l.length
  · rw [WI _ _ _ e]
    exact g.2 n e
  · obtain rfl : n = l.length + 1 := by omega
    rw [List.take_of_length_le (by simp)]; exact hf
theorem Gb {l : List Rc} (g : Good l) (x : Rc) (t : Int) (h : x.f1 ≠ t) : VV (l ++ [x]) t = VV l t := by
  unfold VV
  rw [M6, if_neg h]
  by_cases h0 : 0 < lastB l t
  · have hn := VK l t
    rw [if_pos h0, if_pos h0, EE g x _ _ hn, Pd g _ l.length _ (by rw [List.length_append]; omega) hn hn]
  · rw [if_neg h0, if_neg h0]
theorem Xet {l : List Rc} (g : Good l) (x : Rc) (t : Int) (ht : 1 ≤ t ∧ t ≤ 3) (hx : x.f1 = t) : Uu (l ++ [x]) + VV l t = Uu l + VV (l ++ [x]) t := by
  unfold Uu
  have h3 : t = 1 ∨ t = 2 ∨ t = 3 := by omega
  rcases h3 with rfl | rfl | rfl
  · rw [Gb g x 2 (by omega), Gb g x 3 (by omega)]; omega
  · rw [Gb g x 1 (by omega), Gb g x 3 (by omega)]; omega
  · rw [Gb g x 1 (by omega), Gb g x 2 (by omega)]; omega
theorem Ie {l : List Rc} (x : Rc) (t : Int) (hx : x.f1 = t) (hk : x.f0 = 4 ∨ x.f0 = 5) : VV (l ++ [x]) t = 0 := by
  unfold VV
  rw [M6, if_pos hx, if_pos hk, if_neg (by omega)]
theorem XbH {l : List Rc} (g : Good l) (x : Rc) (t : Int) (hx : x.f1 = t) (hk : x.f0 = 6) (hb : 0 < ZI l l.length (lastB l t)) (hn : x.f7 = (rc l (ZI l l.length (lastB l t) - 1)).f6) :
    VV (l ++ [x]) t + 1 = VV l t := by
  have hl := VK l t
  have hlp : 0 < lastB l t := by
    have := Gq g l.length (lastB l t) t hl (fun h => EC h); omega
  have b := NH g hl hb
  obtain ⟨n, hlen⟩ : ∃ n, l.length = n + 1 := ⟨l.length - 1, by omega⟩
  unfold VV
  rw [M6, if_pos hx, if_neg (show ¬ (x.f0 = 4 ∨ x.f0 = 5) by omega), if_pos (show (0 : Int) < (l.length : Int) + 1 by omega), if_pos hlp]
  have e1 : Fg l l.length (lastB l t) = Fg l n (rc l (ZI l l.length (lastB l t) - 1)).f6 + 1 := by
    rw [hlen, Fg, ← hlen, if_pos hb]
  have e2 : ZI (l ++ [x]) (l.length + 1) ((l.length : Int) + 1) = ZI l l.length x.f7 := by
    rw [ZI, if_pos (by omega), show ((l.length : Int) + 1 - 1) = (l.length : Int) by omega, EB, if_neg (by omega), if_pos hk, Pb g x _ _ (by omega)]
  have e3 : Fg (l ++ [x]) (l.length + 1) ((l.length : Int) + 1) = Fg l l.length x.f7 := by
    rw [Fg, e2]
    conv => rhs; rw [hlen, Fg, ← hlen]
    by_cases h : 0 < ZI l l.length x.f7
    · have b2 := NH g (a := x.f7) (by omega) h
      rw [if_pos h, if_pos h, WH l x _ (by omega) (by omega), EE g x _ _ (by omega), Pd g l.length n _ (by omega) (by omega) (by omega)]
    · rw [if_neg h, if_neg h]
  rw [show (l ++ [x]).length = l.length + 1 by simp, e3, e1, hn, Pd g l.length n _ (by omega) (by omega) (by omega)]
theorem XbI {l : List Rc} (t : Int) (h0 : 0 < lastB l t) (hb : ¬ 0 < ZI l l.length (lastB l t)) : VV l t = 1 := by
  unfold VV
  rw [if_pos h0]
  have : Fg l l.length (lastB l t) = 0 := by
    cases h : l.length with
    | zero => rfl
    | succ n => rw [Fg, ← h, if_neg hb]
  omega
theorem Xeu {l : List Rc} (t : Int) : 0 < lastB l t ↔ 0 < VV l t := by
  unfold VV
  split <;> omega
end Go.Proofs.Ytcefiblpnegepaa.T
