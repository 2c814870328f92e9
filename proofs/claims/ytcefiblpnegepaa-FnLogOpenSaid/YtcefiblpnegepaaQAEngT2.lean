import Derived.Test.YtcefiblpnegepaaQAEngT1
namespace Go.Proofs.Ytcefiblpnegepaa.T
open Go.RowKit Go.PW Go.Proofs.Ytcefiblpnegepaa.Pr
set_option linter.unusedSimpArgs false
set_option linter.unusedVariables false
structure Pz (D : List S25) (b : Int) : Prop where
  len : D.length = 5
  ok : ∀ i : Int, 0 ≤ i → i < 5 → (Xl D i).f2.length = 3 ∧ (Xl D i).f0 ≤ b
theorem Pz.mono {D : List S25} {b b' : Int} (h : Pz D b) (hb : b ≤ b') : Pz D b' := ⟨h.len, fun i h0 h1 => ⟨(h.ok i h0 h1).1, Int.le_trans (h.ok i h0 h1).2 hb⟩⟩
theorem Xhe (D : List S25) (p i : Int) (x : S25) (h0 : 0 ≤ p) (h1 : p < (D.length : Int)) (hi : 0 ≤ i) : Xl (D.set p.toNat x) i = if i = p then x else Xl D i := by
  unfold Xl
  rw [List.getD_eq_getElem?_getD, List.getD_eq_getElem?_getD, List.getElem?_set]
  by_cases h : i = p
  · subst h
    rw [if_pos rfl, if_pos rfl, if_pos (by omega)]
    rfl
  · rw [if_neg (by omega), if_neg h]
theorem Pz.set {D : List S25} {b : Int} (h : Pz D b) {p : Int} (h0 : 0 ≤ p) (h1 : p < 5) {x : S25} (hx : x.f2.length = 3) (hb : x.f0 ≤ b) : Pz (D.set p.toNat x) b := by
  refine ⟨by rw [List.length_set]; exact h.len, fun i hi hi2 => ?_⟩; rw [Xhe D p i x h0 (by rw [h.len]; omega) hi]
  split
  · exact ⟨hx, hb⟩
  · exact h.ok i hi hi2
theorem XbL (a b : Int) (l : List Int) (h : l.length < 17592186044416) : J8.f a b l = some (a, b, l) := by
  unfold J8.f
  rw [Option.bind_some, if_pos (by simpa using h)]
  rfl
theorem Xm8 (a b : Int) (l : List Int) (k tx p s o n pv nx lsn : Int) (hl : l.length = 3) (hs : s ≤ 2) : ∃ b' l', Dr.f a b l k tx p s o n pv nx lsn = some (lsn, b', l') ∧ l'.length = 3 := by
  unfold Dr.f
  rw [XbL a b l (by omega), Option.bind_some]
  by_cases h : s ≥ 0
  · rw [if_pos h, if_pos (show 0 ≤ s from h)]
    rw [if_pos (by show s < (l.length : Int); omega)]; exact ⟨_, _, rfl, by rw [List.length_set]; exact hl⟩
  · rw [if_neg h]
    by_cases h2 : n = 0
    · rw [if_pos h2, if_pos (by omega)]
      exact ⟨_, _, rfl, by simp⟩
    · rw [if_neg h2]
      exact ⟨_, _, rfl, hl⟩
theorem XaR {D : List S25} {b : Int} (h : Pz D b) : ∀ (d i k : Nat), i + d = 5 → d < k → Xy.l0 k D (D.take i) (i : Int) = some D
  | 0, i, k + 1, hi, _ => by
    rw [Xy.l0, if_neg (by rw [h.len]; omega), List.take_of_length_le (by rw [h.len]; omega)]
  | d + 1, i, k + 1, hi, hk => by
    have hok := h.ok (i : Int) (by omega) (by omega); rw [Xy.l0, if_pos (by rw [h.len]; omega), if_pos (by omega), XbL _ _ _ (by rw [hok.1]; omega), Option.bind_some, if_pos (by rw [List.length_take]; have := h.len; omega), Mj (by omega) (by omega)]
    have e : D.take i ++ [(⟨(Xl D (i : Int)).f0, (Xl D (i : Int)).f1, (Xl D (i : Int)).f2⟩ : S25)] = D.take (i + 1) := by
      have hlt : i < D.length := by rw [h.len]; omega
      rw [List.take_succ_eq_append_getElem hlt]
      congr 2
      unfold Xl
      rw [List.getD_eq_getElem?_getD, Int.toNat_natCast, List.getElem?_eq_getElem hlt]
      rfl
    have ih := XaR h d (i + 1) k (by omega) (by omega); rw [← e] at ih; exact ih
theorem WK {D : List S25} {b : Int} (h : Pz D b) (k : Nat) (hk : 10 ≤ k) : Xy.f k D = some D := XaR h 5 0 k (by omega) (by omega)
theorem Ig (a : Int) : ∃ t, Zg.f a = some t := by
  unfold Zg.f
  split
  · exact ⟨_, rfl⟩
  · split
    · exact ⟨_, rfl⟩
    · exact ⟨_, rfl⟩
theorem Xhf {L : List Rc} (g : Good L) (hl : L.length ≤ 160) : ∀ (d i k : Nat) (M : List S25), i + d = L.length → d < k → Pz M (L.length : Int) → ∃ M', Yh.l0 k L M (i : Int) = some M' ∧ Pz M' (L.length : Int)
  | 0, i, k + 1, M, hi, _, hM => ⟨M, by rw [Yh.l0, if_neg (by omega)], hM⟩
  | d + 1, i, k + 1, M, hi, hk, hM => by
    obtain ⟨t, ht⟩ := Ig (Xa L (i : Int)).f0; have o := g i (by omega); have hp : 0 ≤ (Xa L (i : Int)).f2 ∧ (Xa L (i : Int)).f2 < 5 := o.page; have hs : -1 ≤ (Xa L (i : Int)).f3 ∧ (Xa L (i : Int)).f3 < 3 := o.slot
    have ih := fun M' (hM' : Pz M' (L.length : Int)) => Xhf g hl d (i + 1) k M' (by omega) (by omega) hM'
    rw [Yh.l0, if_pos (by omega), if_pos (by omega), ht, Option.bind_some, Mj (by omega) (by omega)]
    cases t
    · rw [if_neg (by simp)]
      exact ih M hM
    · rw [if_pos rfl, if_pos hp.1, if_pos (by rw [hM.len]; omega)]
      by_cases hf : (Xl M (Xa L (i : Int)).f2).f0 < (i : Int) + 1
      · obtain ⟨b', l', e, hl'⟩ := Xm8 (Xl M (Xa L (i : Int)).f2).f0 (Xl M (Xa L (i : Int)).f2).f1 (Xl M (Xa L (i : Int)).f2).f2 (Xa L (i : Int)).f0 (Xa L (i : Int)).f1 (Xa L (i : Int)).f2 (Xa L (i : Int)).f3 (Xa L (i : Int)).f4 (Xa L (i : Int)).f5 (Xa L (i : Int)).f6 (Xa L (i : Int)).f7 ((i : Int) + 1) (hM.ok _ hp.1 hp.2).1 (by omega)
        rw [if_pos hf, e, Option.bind_some]; exact ih _ (hM.set hp.1 hp.2 hl' (by show (i : Int) + 1 ≤ _; omega))
      · rw [if_neg hf]
        exact ih M hM
theorem Xo9 {D : List S25} {L : List Rc} {s : Int} (hD : Pz D s) (g : Good L) (hl : L.length ≤ 160) (hs : s ≤ (L.length : Int)) (k : Nat) (hk : 400 ≤ k) : ∃ M, Yh.f k D L = some M ∧ Pz M (L.length : Int) := by
  unfold Yh.f
  rw [WK hD k (by omega), Option.bind_some]; exact Xhf g hl L.length 0 k D (by omega) (by omega) (hD.mono hs)
theorem XkA (k : Nat) (hk : 10 ≤ k) : ∃ D, YF.f k = some D ∧ Pz D 0 := by
  have hn : Fj.f = some (0, 0, List.replicate 3 0) := by unfold Fj.f; rw [if_pos (by omega)]
  have key : ∀ (d i k : Nat), i + d = 5 → d < k → YF.l0 k (List.replicate i (⟨0, 0, List.replicate 3 0⟩ : S25)) (i : Int) = some (List.replicate 5 (⟨0, 0, List.replicate 3 0⟩ : S25)) := by
    intro d
    induction d with
    | zero =>
      intro i k hi hk
      obtain ⟨k2, rfl⟩ : ∃ k2, k = k2 + 1 := ⟨k - 1, by omega⟩
      rw [YF.l0, if_neg (by omega), show i = 5 by omega]
    | succ d ih =>
      intro i k hi hk
      obtain ⟨k2, rfl⟩ : ∃ k2, k = k2 + 1 := ⟨k - 1, by omega⟩
      rw [YF.l0, if_pos (by omega), hn, Option.bind_some, if_pos (by rw [List.length_replicate]; omega), Mj (by omega) (by omega)]; have := ih (i + 1) k2 (by omega) (by omega); rw [List.replicate_succ'] at this; exact this
  refine ⟨_, key 5 0 k (by omega) (by omega), by simp, fun i h0 h1 => ?_⟩
  unfold Xl
  rw [List.getD_eq_getElem?_getD, List.getElem?_replicate, if_pos (by omega)]; exact ⟨by simp, by simp⟩
theorem XdD (a b : Int) (l : List Int) (hl : l.length = 3) (k : Nat) (hk : 10 ≤ k) : ∃ t, Zq.f k a b l = some t := by
  have key : ∀ (d i k : Nat), i + d = 3 → d < k → ∃ t, Zq.l0 k (i : Int) a b l = some t := by
    intro d
    induction d with
    | zero =>
      intro i k hi hk
      obtain ⟨k2, rfl⟩ : ∃ k2, k = k2 + 1 := ⟨k - 1, by omega⟩
      exact ⟨true, by rw [Zq.l0, if_neg (by omega)]⟩
    | succ d ih =>
      intro i k hi hk
      obtain ⟨k2, rfl⟩ : ∃ k2, k = k2 + 1 := ⟨k - 1, by omega⟩
      rw [Zq.l0, if_pos (by omega), if_pos (by omega), Mj (by omega) (by omega)]
      split
      · exact ih (i + 1) k2 (by omega) (by omega)
      · exact ⟨_, rfl⟩
  exact key 3 0 k (by omega) (by omega)
end Go.Proofs.Ytcefiblpnegepaa.T
