import Derived.Test.YtcefiblpnegepaaQBLChainP
namespace Go.Proofs.Ytcefiblpnegepaa.T
open Go.RowKit Go.PW Go.Proofs.Ytcefiblpnegepaa.Pr
set_option linter.unusedSimpArgs false
set_option linter.unusedVariables false
abbrev Rc := S41
abbrev rc (l : List Rc) (i : Int) : Rc := Xa l i
theorem Wl (l : List Rc) (x : Rc) (i : Int) (h0 : 0 ≤ i) (h : i < (l.length : Int)) : rc (l ++ [x]) i = rc l i := by
  unfold rc Xa
  rw [List.getD_eq_getElem?_getD, List.getD_eq_getElem?_getD, List.getElem?_append_left (by omega)]
theorem Qf (l : List Rc) (x : Rc) : rc (l ++ [x]) (l.length : Int) = x := by
  unfold rc Xa
  rw [List.getD_eq_getElem?_getD, List.getElem?_append_right (by simp)]
  simp
theorem RU (l : List Rc) (n : Nat) (i : Int) (h0 : 0 ≤ i) (h : i < (n : Int)) : rc (l.take n) i = rc l i := by
  unfold rc Xa
  rw [List.getD_eq_getElem?_getD, List.getD_eq_getElem?_getD, List.getElem?_take_of_lt (by omega)]
structure OKr (l : List Rc) (i : Nat) : Prop where
  tx : 1 ≤ (rc l i).f1 ∧ (rc l i).f1 ≤ 3
  page : 0 ≤ (rc l i).f2 ∧ (rc l i).f2 < 5
  slot : -1 ≤ (rc l i).f3 ∧ (rc l i).f3 < 3
  prev : (rc l i).f6 = lastB (l.take i) (rc l i).f1
  next : 0 ≤ (rc l i).f7 ∧ (rc l i).f7 ≤ i
  ntx : 0 < (rc l i).f7 → (rc l ((rc l i).f7 - 1)).f1 = (rc l i).f1
def Good (l : List Rc) : Prop := ∀ i : Nat, i < l.length → OKr l i
theorem OKr.Vq {l : List Rc} {i : Nat} (h : OKr l i) (hi : i < l.length) : 0 ≤ (rc l i).f6 ∧ (rc l i).f6 ≤ i := by
  rw [h.prev]; have := Jq (l.take i) (rc l i).f1; rw [List.length_take, Nat.min_eq_left (by omega)] at this; exact ⟨Dc _ _, this⟩
theorem Wm (l : List Rc) (x : Rc) (n : Nat) (h : n ≤ l.length) : (l ++ [x]).take n = l.take n := by
  rw [List.take_append_of_le_length h]
theorem OKr.app {l : List Rc} {i : Nat} (h : OKr l i) (hi : i < l.length) (x : Rc) : OKr (l ++ [x]) i := by
  have e : rc (l ++ [x]) i = rc l i := Wl l x i (by omega) (by omega); refine ⟨by rw [e]; exact h.tx, by rw [e]; exact h.page, by rw [e]; exact h.slot, by rw [e, Wm _ _ _ (by omega)]; exact h.prev, by rw [e]; exact h.next, ?_⟩; rw [e]; intro h0; have hn := h.next; rw [Wl l x _ (by omega) (by omega)]; exact h.ntx h0
theorem OKr.cut {l : List Rc} {i n : Nat} (h : OKr l i) (hi : i < n) : OKr (l.take n) i := by
  have e : rc (l.take n) i = rc l i := RU l n i (by omega) (by omega); refine ⟨by rw [e]; exact h.tx, by rw [e]; exact h.page, by rw [e]; exact h.slot, by rw [e, List.take_take, Nat.min_eq_left (by omega)]; exact h.prev, by rw [e]; exact h.next, ?_⟩; rw [e]; intro h0; have hn := h.next; rw [RU l n _ (by omega) (by omega)]; exact h.ntx h0
theorem Good.take {l : List Rc} (h : Good l) (n : Nat) : Good (l.take n) := fun i hi => by
  rw [List.length_take] at hi; exact (h i (by omega)).cut (by omega)
theorem Xda (t : Int) : ∀ l : List Rc, 0 < Wn t l → (rc l.reverse (Wn t l - 1)).f1 = t
  | [], h => by simp [Wn] at h
  | x :: l, h => by
    rw [List.reverse_cons]
    unfold Wn at h ⊢
    by_cases h1 : x.f1 = t
    · rw [if_pos h1] at h ⊢
      split at h
      · omega
      · rename_i hk
        rw [if_neg hk]; have := Qf l.reverse x; rw [List.length_reverse] at this; rw [show ((l.length : Int) + 1 - 1) = (l.length : Int) by omega, this]; exact h1
    · rw [if_neg h1] at h ⊢
      have hb := KI t l; rw [Wl _ _ _ (by omega) (by rw [List.length_reverse]; omega)]; exact Xda t l h
theorem BJ {l : List Rc} {t : Int} (h : 0 < lastB l t) : (rc l (lastB l t - 1)).f1 = t := by
  have := Xda t l.reverse h; rw [List.reverse_reverse] at this; exact this
theorem OKr.ptx {l : List Rc} {i : Nat} (h : OKr l i) (hi : i < l.length) (h0 : 0 < (rc l i).f6) : (rc l ((rc l i).f6 - 1)).f1 = (rc l i).f1 := by
  have hb := h.Vq hi; have e := h.prev; have := BJ (l := l.take i) (t := (rc l i).f1) (by rw [← e]; exact h0); rw [← e, RU l i _ (by omega) (by omega)] at this; exact this
def ZF (l : List Rc) : Nat → Int → Int
  | 0, _ => 0
  | n + 1, a => if 0 < a then (if (rc l (a - 1)).f0 = 1 ∨ (rc l (a - 1)).f0 = 2 then a else if (rc l (a - 1)).f0 = 6 then ZF l n (rc l (a - 1)).f7 else ZF l n (rc l (a - 1)).f6) else 0
theorem GJ {a : Int} (h : 0 < a) : ∃ j : Nat, a = (j : Int) + 1 := ⟨(a - 1).toNat, by omega⟩
theorem Sj {l : List Rc} (g : Good l) : ∀ (n m : Nat) (a : Int), a ≤ (n : Int) → a ≤ (m : Int) → a ≤ (l.length : Int) → ZF l n a = ZF l m a
  | 0, 0, _, _, _, _ => rfl
  | 0, m + 1, a, h, _, _ => by
    rw [ZF, ZF, if_neg (by omega)]
  | n + 1, 0, a, _, h, _ => by
    rw [ZF, ZF, if_neg (by omega)]
  | n + 1, m + 1, a, h1, h2, hl => by
    rw [ZF, ZF]
    by_cases ha : 0 < a
    · obtain ⟨j, rfl⟩ := GJ ha
      rw [show (j : Int) + 1 - 1 = (j : Int) by omega]; have hp := (g j (by omega)).Vq (by omega); have hn := (g j (by omega)).next; rw [if_pos ha, if_pos ha, Sj g n m _ (by omega) (by omega) (by omega), Sj g n m (rc l (j : Int)).f6 (by omega) (by omega) (by omega)]
    · rw [if_neg ha, if_neg ha]
theorem WH {l : List Rc} (g : Good l) (x : Rc) : ∀ (n : Nat) (a : Int), a ≤ (l.length : Int) → ZF (l ++ [x]) n a = ZF l n a
  | 0, _, _ => rfl
  | n + 1, a, hl => by
    rw [ZF, ZF]
    by_cases ha : 0 < a
    · obtain ⟨j, rfl⟩ := GJ ha
      rw [show (j : Int) + 1 - 1 = (j : Int) by omega]; have hp := (g j (by omega)).Vq (by omega); have hn := (g j (by omega)).next; rw [if_pos ha, if_pos ha, Wl l x _ (by omega) (by omega), WH g x n _ (by omega), WH g x n _ (by omega)]
    · rw [if_neg ha, if_neg ha]
theorem Gq {l : List Rc} (g : Good l) : ∀ (n : Nat) (a : Int) (t : Int), a ≤ (l.length : Int) → (0 < a → (rc l (a - 1)).f1 = t) → 0 ≤ ZF l n a ∧ ZF l n a ≤ max a 0 ∧ (0 < ZF l n a → (rc l (ZF l n a - 1)).f1 = t ∧ ((rc l (ZF l n a - 1)).f0 = 1 ∨ (rc l (ZF l n a - 1)).f0 = 2))
  | 0, a, t, _, _ => by
    refine ⟨by simp [ZF], by rw [ZF]; omega, fun h => ?_⟩
    simp [ZF] at h
  | n + 1, a, t, hl, ht => by
    rw [ZF]
    by_cases ha : 0 < a
    · obtain ⟨j, rfl⟩ := GJ ha
      have ht' := ht ha; rw [show (j : Int) + 1 - 1 = (j : Int) by omega] at ht' ⊢; have o := g j (by omega); have hp := o.Vq (by omega); have hn := o.next; rw [if_pos ha]
      by_cases hk : (rc l (j : Int)).f0 = 1 ∨ (rc l (j : Int)).f0 = 2
      · rw [if_pos hk]
        refine ⟨by omega, by omega, fun _ => ?_⟩; rw [show (j : Int) + 1 - 1 = (j : Int) by omega]; exact ⟨ht', hk⟩
      · rw [if_neg hk]
        by_cases h6 : (rc l (j : Int)).f0 = 6
        · rw [if_pos h6]
          have ih := Gq g n (rc l (j : Int)).f7 t (by omega) (fun h => (o.ntx h).trans ht'); exact ⟨ih.1, by omega, ih.2.2⟩
        · rw [if_neg h6]
          have ih := Gq g n (rc l (j : Int)).f6 t (by omega) (fun h => (o.ptx (by omega) h).trans ht'); exact ⟨ih.1, by omega, ih.2.2⟩
    · rw [if_neg ha]
      exact ⟨by omega, by omega, fun h => by omega⟩
def Fb (l : List Rc) : Nat → Int → Nat
  | 0, _ => 0
  | n + 1, a => if 0 < ZF l (n + 1) a then Fb l n (rc l (ZF l (n + 1) a - 1)).f6 + 1 else 0
theorem NI {l : List Rc} (g : Good l) {n : Nat} {a : Int} (hl : a ≤ (l.length : Int)) (h : 0 < ZF l n a) : 0 ≤ (rc l (ZF l n a - 1)).f6 ∧ (rc l (ZF l n a - 1)).f6 < a ∧ ZF l n a ≤ a := by
  have b := Gq g n a (rc l (a - 1)).f1 hl (fun _ => rfl)
  have ha : 0 < a := by omega
  obtain ⟨j, hj⟩ := GJ h; rw [hj] at b ⊢; rw [show (j : Int) + 1 - 1 = (j : Int) by omega]; have hp := (g j (by omega)).Vq (by omega); omega
theorem WI {l : List Rc} (g : Good l) : ∀ (n m : Nat) (a : Int), a ≤ (n : Int) → a ≤ (m : Int) → a ≤ (l.length : Int) → Fb l n a = Fb l m a
  | 0, 0, _, _, _, _ => rfl
  | 0, m + 1, a, h, _, hl => by
    have b := Gq g (m + 1) a (rc l (a - 1)).f1 hl (fun _ => rfl)
    rw [Fb, Fb, if_neg (by omega)]
  | n + 1, 0, a, _, h, hl => by
    have b := Gq g (n + 1) a (rc l (a - 1)).f1 hl (fun _ => rfl)
    rw [Fb, Fb, if_neg (by omega)]
  | n + 1, m + 1, a, h1, h2, hl => by
    rw [Fb, Fb, Sj g (n + 1) (m + 1) a h1 h2 hl]
    by_cases h : 0 < ZF l (m + 1) a
    · have b := NI g hl h
      rw [if_pos h, if_pos h, WI g n m _ (by omega) (by omega) (by omega)]
    · rw [if_neg h, if_neg h]
theorem BK {l : List Rc} (g : Good l) (x : Rc) : ∀ (n : Nat) (a : Int), a ≤ (l.length : Int) → Fb (l ++ [x]) n a = Fb l n a
  | 0, _, _ => rfl
  | n + 1, a, hl => by
    rw [Fb, Fb, WH g x (n + 1) a hl]
    by_cases h : 0 < ZF l (n + 1) a
    · have b := NI g hl h
      rw [if_pos h, if_pos h, Wl l x _ (by omega) (by omega), BK g x n _ (by omega)]
    · rw [if_neg h, if_neg h]
def VR (l : List Rc) (t : Int) : Nat := if 0 < lastB l t then Fb l l.length (lastB l t) + 1 else 0
def Uy (l : List Rc) : Nat := VR l 1 + VR l 2 + VR l 3
def Fits (l : List Rc) : Prop := ∀ n : Nat, n ≤ l.length → n + Uy (l.take n) ≤ 150
def Rq (l : List Rc) : Prop := Good l ∧ Fits l
theorem Rq.take {l : List Rc} (h : Rq l) (n : Nat) : Rq (l.take n) := by
  refine ⟨h.1.take n, fun m hm => ?_⟩; rw [List.length_take] at hm; rw [List.take_take, Nat.min_eq_left (by omega)]; exact h.2 m (by omega)
theorem Rq.len {l : List Rc} (h : Rq l) : l.length + Uy l ≤ 150 := by
  have := h.2 l.length (Nat.le_refl _)
  rwa [List.take_length] at this
theorem Rq.nil : Rq [] := by
  refine ⟨fun i hi => by simp at hi, fun n hn => ?_⟩
  simp at hn
  subst hn
  decide
structure XdK (l : List Rc) (x : Rc) : Prop where
  tx : 1 ≤ x.f1 ∧ x.f1 ≤ 3
  page : 0 ≤ x.f2 ∧ x.f2 < 5
  slot : -1 ≤ x.f3 ∧ x.f3 < 3
  prev : x.f6 = lastB l x.f1
  next : 0 ≤ x.f7 ∧ x.f7 ≤ (l.length : Int)
  ntx : 0 < x.f7 → (rc l (x.f7 - 1)).f1 = x.f1
theorem Good.app {l : List Rc} (g : Good l) {x : Rc} (h : XdK l x) : Good (l ++ [x]) := fun i hi => by
  rw [List.length_append, List.length_singleton] at hi
  by_cases e : i < l.length
  · exact (g i e).app e x
  · obtain rfl : i = l.length := by omega
    refine ⟨?_, ?_, ?_, ?_, ?_, ?_⟩
    all_goals rw [Qf]
    · exact h.tx
    · exact h.page
    · exact h.slot
    · rw [Wm _ _ _ (Nat.le_refl _), List.take_length]
      exact h.prev
    · exact h.next
    · intro h0
      have := h.next; rw [Wl l x _ (by omega) (by omega)]; exact h.ntx h0
theorem Rq.app {l : List Rc} (g : Rq l) {x : Rc} (h : XdK l x) (hf : l.length + 1 + Uy (l ++ [x]) ≤ 150) : Rq (l ++ [x]) := by
  refine ⟨g.1.app h, fun n hn => ?_⟩; rw [List.length_append, List.length_singleton] at hn
  by_cases e : n ≤ l.length
  · rw [Wm _ _ _ e]
    exact g.2 n e
  · obtain rfl : n = l.length + 1 := by omega
    rw [List.take_of_length_le (by simp)]; exact hf
theorem Gc {l : List Rc} (g : Good l) (x : Rc) (t : Int) (h : x.f1 ≠ t) : VR (l ++ [x]) t = VR l t := by
  unfold VR
  rw [GK, if_neg h]
  by_cases h0 : 0 < lastB l t
  · have hn := Jq l t
    rw [if_pos h0, if_pos h0, BK g x _ _ hn, WI g _ l.length _ (by rw [List.length_append]; omega) hn hn]
  · rw [if_neg h0, if_neg h0]
theorem XdL {l : List Rc} (g : Good l) (x : Rc) (t : Int) (ht : 1 ≤ t ∧ t ≤ 3) (hx : x.f1 = t) : Uy (l ++ [x]) + VR l t = Uy l + VR (l ++ [x]) t := by
  unfold Uy
  have h3 : t = 1 ∨ t = 2 ∨ t = 3 := by omega
  rcases h3 with rfl | rfl | rfl
  · rw [Gc g x 2 (by omega), Gc g x 3 (by omega)]; omega
  · rw [Gc g x 1 (by omega), Gc g x 3 (by omega)]; omega
  · rw [Gc g x 1 (by omega), Gc g x 2 (by omega)]; omega
theorem O0 {l : List Rc} (x : Rc) (t : Int) (hx : x.f1 = t) (hk : x.f0 = 4 ∨ x.f0 = 5) : VR (l ++ [x]) t = 0 := by
  unfold VR
  rw [GK, if_pos hx, if_pos hk, if_neg (by omega)]
theorem Xbq {l : List Rc} (g : Good l) (x : Rc) (t : Int) (hx : x.f1 = t) (hk : x.f0 = 6) (hb : 0 < ZF l l.length (lastB l t)) (hn : x.f7 = (rc l (ZF l l.length (lastB l t) - 1)).f6) :
    VR (l ++ [x]) t + 1 = VR l t := by
  have hl := Jq l t
  have hlp : 0 < lastB l t := by
    have := Gq g l.length (lastB l t) t hl (fun h => BJ h); omega
  have b := NI g hl hb
  obtain ⟨n, hlen⟩ : ∃ n, l.length = n + 1 := ⟨l.length - 1, by omega⟩
  unfold VR
  rw [GK, if_pos hx, if_neg (show ¬ (x.f0 = 4 ∨ x.f0 = 5) by omega), if_pos (show (0 : Int) < (l.length : Int) + 1 by omega), if_pos hlp]
  have e1 : Fb l l.length (lastB l t) = Fb l n (rc l (ZF l l.length (lastB l t) - 1)).f6 + 1 := by
    rw [hlen, Fb, ← hlen, if_pos hb]
  have e2 : ZF (l ++ [x]) (l.length + 1) ((l.length : Int) + 1) = ZF l l.length x.f7 := by
    rw [ZF, if_pos (by omega), show ((l.length : Int) + 1 - 1) = (l.length : Int) by omega, Qf, if_neg (by omega), if_pos hk, WH g x _ _ (by omega)]
  have e3 : Fb (l ++ [x]) (l.length + 1) ((l.length : Int) + 1) = Fb l l.length x.f7 := by
    rw [Fb, e2]
    conv => rhs; rw [hlen, Fb, ← hlen]
    by_cases h : 0 < ZF l l.length x.f7
    · have b2 := NI g (a := x.f7) (by omega) h
      rw [if_pos h, if_pos h, Wl l x _ (by omega) (by omega), BK g x _ _ (by omega), WI g l.length n _ (by omega) (by omega) (by omega)]
    · rw [if_neg h, if_neg h]
  rw [show (l ++ [x]).length = l.length + 1 by simp, e3, e1, hn, WI g l.length n _ (by omega) (by omega) (by omega)]
theorem Xbr {l : List Rc} (t : Int) (h0 : 0 < lastB l t) (hb : ¬ 0 < ZF l l.length (lastB l t)) : VR l t = 1 := by
  unfold VR
  rw [if_pos h0]
  have : Fb l l.length (lastB l t) = 0 := by
    cases h : l.length with
    | zero => rfl
    | succ n => rw [Fb, ← h, if_neg hb]
  omega
theorem XdM {l : List Rc} (t : Int) : 0 < lastB l t ↔ 0 < VR l t := by
  unfold VR
  split <;> omega
end Go.Proofs.Ytcefiblpnegepaa.T
