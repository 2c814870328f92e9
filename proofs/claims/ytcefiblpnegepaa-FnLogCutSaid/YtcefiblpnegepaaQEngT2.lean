import Derived.Test.YtcefiblpnegepaaQEngT1
namespace Go.Proofs.Ytcefiblpnegepaa.T
open Go.RowKit Go.Proofs.YtcefiblpnegepaaW.PrintWords Go.Proofs.Ytcefiblpnegepaa.Pr
set_option linter.unusedSimpArgs false
set_option linter.unusedVariables false
structure PgsI (D : List S25) (b : Int) : Prop where
  len : D.length = 5
  ok : ∀ i : Int, 0 ≤ i → i < 5 → (rd_T25 D i).f2.length = 3 ∧ (rd_T25 D i).f0 ≤ b
theorem PgsI.mono {D : List S25} {b b' : Int} (h : PgsI D b) (hb : b ≤ b') : PgsI D b' := ⟨h.len, fun i h0 h1 => ⟨(h.ok i h0 h1).1, Int.le_trans (h.ok i h0 h1).2 hb⟩⟩
theorem rd25_set (D : List S25) (p i : Int) (x : S25) (h0 : 0 ≤ p) (h1 : p < (D.length : Int)) (hi : 0 ≤ i) : rd_T25 (D.set p.toNat x) i = if i = p then x else rd_T25 D i := by
  unfold rd_T25
  rw [List.getD_eq_getElem?_getD, List.getD_eq_getElem?_getD, List.getElem?_set]
  by_cases h : i = p
  · subst h
    rw [if_pos rfl, if_pos rfl, if_pos (by omega)]
    rfl
  · rw [if_neg (by omega), if_neg h]
theorem PgsI.set {D : List S25} {b : Int} (h : PgsI D b) {p : Int} (h0 : 0 ≤ p) (h1 : p < 5) {x : S25} (hx : x.f2.length = 3) (hb : x.f0 ≤ b) : PgsI (D.set p.toNat x) b := by
  refine ⟨by rw [List.length_set]; exact h.len, fun i hi hi2 => ?_⟩; rw [rd25_set D p i x h0 (by rw [h.len]; omega) hi]
  split
  · exact ⟨hx, hb⟩
  · exact h.ok i hi hi2
theorem copy_f (a b : Int) (l : List Int) (h : l.length < 17592186044416) : spec_l1Copy.f a b l = some (a, b, l) := by
  unfold spec_l1Copy.f
  rw [Option.bind_some, if_pos (by simpa using h)]
  rfl
theorem do2_f (a b : Int) (l : List Int) (k tx p s o n pv nx lsn : Int) (hl : l.length = 3) (hs : s ≤ 2) : ∃ b' l', spec_l2Do.f a b l k tx p s o n pv nx lsn = some (lsn, b', l') ∧ l'.length = 3 := by
  unfold spec_l2Do.f
  rw [copy_f a b l (by omega), Option.bind_some]
  by_cases h : s ≥ 0
  · rw [if_pos h, if_pos (show 0 ≤ s from h)]
    rw [if_pos (by show s < (l.length : Int); omega)]; exact ⟨_, _, rfl, by rw [List.length_set]; exact hl⟩
  · rw [if_neg h]
    by_cases h2 : n = 0
    · rw [if_pos h2, if_pos (by omega)]
      exact ⟨_, _, rfl, by simp⟩
    · rw [if_neg h2]
      exact ⟨_, _, rfl, hl⟩
theorem copies_l {D : List S25} {b : Int} (h : PgsI D b) : ∀ (d i k : Nat), i + d = 5 → d < k → spec_l11CopyPages.l0 k D (D.take i) (i : Int) = some D
  | 0, i, k + 1, hi, _ => by
    rw [spec_l11CopyPages.l0, if_neg (by rw [h.len]; omega), List.take_of_length_le (by rw [h.len]; omega)]
  | d + 1, i, k + 1, hi, hk => by
    have hok := h.ok (i : Int) (by omega) (by omega); rw [spec_l11CopyPages.l0, if_pos (by rw [h.len]; omega), if_pos (by omega), copy_f _ _ _ (by rw [hok.1]; omega), Option.bind_some, if_pos (by rw [List.length_take]; have := h.len; omega), wadd (by omega) (by omega)]
    have e : D.take i ++ [(⟨(rd_T25 D (i : Int)).f0, (rd_T25 D (i : Int)).f1, (rd_T25 D (i : Int)).f2⟩ : S25)] = D.take (i + 1) := by
      have hlt : i < D.length := by rw [h.len]; omega
      rw [List.take_succ_eq_append_getElem hlt]
      congr 2
      unfold rd_T25
      rw [List.getD_eq_getElem?_getD, Int.toNat_natCast, List.getElem?_eq_getElem hlt]
      rfl
    have ih := copies_l h d (i + 1) k (by omega) (by omega); rw [← e] at ih; exact ih
theorem copies_k {D : List S25} {b : Int} (h : PgsI D b) (k : Nat) (hk : 10 ≤ k) : spec_l11CopyPages.f k D = some D := copies_l h 5 0 k (by omega) (by omega)
theorem changes_b (a : Int) : ∃ t, spec_l2Changes.f a = some t := by
  unfold spec_l2Changes.f
  split
  · exact ⟨_, rfl⟩
  · split
    · exact ⟨_, rfl⟩
    · exact ⟨_, rfl⟩
theorem redo_l {L : List Rc} (g : Good L) (hl : L.length ≤ 160) : ∀ (d i k : Nat) (M : List S25), i + d = L.length → d < k → PgsI M (L.length : Int) → ∃ M', spec_l11Redo.l0 k L M (i : Int) = some M' ∧ PgsI M' (L.length : Int)
  | 0, i, k + 1, M, hi, _, hM => ⟨M, by rw [spec_l11Redo.l0, if_neg (by omega)], hM⟩
  | d + 1, i, k + 1, M, hi, hk, hM => by
    obtain ⟨t, ht⟩ := changes_b (rd_T41 L (i : Int)).f0; have o := g i (by omega); have hp : 0 ≤ (rd_T41 L (i : Int)).f2 ∧ (rd_T41 L (i : Int)).f2 < 5 := o.page; have hs : -1 ≤ (rd_T41 L (i : Int)).f3 ∧ (rd_T41 L (i : Int)).f3 < 3 := o.slot
    have ih := fun M' (hM' : PgsI M' (L.length : Int)) => redo_l g hl d (i + 1) k M' (by omega) (by omega) hM'
    rw [spec_l11Redo.l0, if_pos (by omega), if_pos (by omega), ht, Option.bind_some, wadd (by omega) (by omega)]
    cases t
    · rw [if_neg (by simp)]
      exact ih M hM
    · rw [if_pos rfl, if_pos hp.1, if_pos (by rw [hM.len]; omega)]
      by_cases hf : (rd_T25 M (rd_T41 L (i : Int)).f2).f0 < (i : Int) + 1
      · obtain ⟨b', l', e, hl'⟩ := do2_f (rd_T25 M (rd_T41 L (i : Int)).f2).f0 (rd_T25 M (rd_T41 L (i : Int)).f2).f1 (rd_T25 M (rd_T41 L (i : Int)).f2).f2 (rd_T41 L (i : Int)).f0 (rd_T41 L (i : Int)).f1 (rd_T41 L (i : Int)).f2 (rd_T41 L (i : Int)).f3 (rd_T41 L (i : Int)).f4 (rd_T41 L (i : Int)).f5 (rd_T41 L (i : Int)).f6 (rd_T41 L (i : Int)).f7 ((i : Int) + 1) (hM.ok _ hp.1 hp.2).1 (by omega)
        rw [if_pos hf, e, Option.bind_some]; exact ih _ (hM.set hp.1 hp.2 hl' (by show (i : Int) + 1 ≤ _; omega))
      · rw [if_neg hf]
        exact ih M hM
theorem redo_k {D : List S25} {L : List Rc} {s : Int} (hD : PgsI D s) (g : Good L) (hl : L.length ≤ 160) (hs : s ≤ (L.length : Int)) (k : Nat) (hk : 400 ≤ k) : ∃ M, spec_l11Redo.f k D L = some M ∧ PgsI M (L.length : Int) := by
  unfold spec_l11Redo.f
  rw [copies_k hD k (by omega), Option.bind_some]; exact redo_l g hl L.length 0 k D (by omega) (by omega) (hD.mono hs)
theorem pages_k (k : Nat) (hk : 10 ≤ k) : ∃ D, spec_l11Pages.f k = some D ∧ PgsI D 0 := by
  have hn : spec_PageNew.f = some (0, 0, List.replicate 3 0) := by unfold spec_PageNew.f; rw [if_pos (by omega)]
  have key : ∀ (d i k : Nat), i + d = 5 → d < k → spec_l11Pages.l0 k (List.replicate i (⟨0, 0, List.replicate 3 0⟩ : S25)) (i : Int) = some (List.replicate 5 (⟨0, 0, List.replicate 3 0⟩ : S25)) := by
    intro d
    induction d with
    | zero =>
      intro i k hi hk
      obtain ⟨k2, rfl⟩ : ∃ k2, k = k2 + 1 := ⟨k - 1, by omega⟩
      rw [spec_l11Pages.l0, if_neg (by omega), show i = 5 by omega]
    | succ d ih =>
      intro i k hi hk
      obtain ⟨k2, rfl⟩ : ∃ k2, k = k2 + 1 := ⟨k - 1, by omega⟩
      rw [spec_l11Pages.l0, if_pos (by omega), hn, Option.bind_some, if_pos (by rw [List.length_replicate]; omega), wadd (by omega) (by omega)]; have := ih (i + 1) k2 (by omega) (by omega); rw [List.replicate_succ'] at this; exact this
  refine ⟨_, key 5 0 k (by omega) (by omega), by simp, fun i h0 h1 => ?_⟩
  unfold rd_T25
  rw [List.getD_eq_getElem?_getD, List.getElem?_replicate, if_pos (by omega)]; exact ⟨by simp, by simp⟩
theorem empty_k (a b : Int) (l : List Int) (hl : l.length = 3) (k : Nat) (hk : 10 ≤ k) : ∃ t, spec_l1Empty.f k a b l = some t := by
  have key : ∀ (d i k : Nat), i + d = 3 → d < k → ∃ t, spec_l1Empty.l0 k (i : Int) a b l = some t := by
    intro d
    induction d with
    | zero =>
      intro i k hi hk
      obtain ⟨k2, rfl⟩ : ∃ k2, k = k2 + 1 := ⟨k - 1, by omega⟩
      exact ⟨true, by rw [spec_l1Empty.l0, if_neg (by omega)]⟩
    | succ d ih =>
      intro i k hi hk
      obtain ⟨k2, rfl⟩ : ∃ k2, k = k2 + 1 := ⟨k - 1, by omega⟩
      rw [spec_l1Empty.l0, if_pos (by omega), if_pos (by omega), wadd (by omega) (by omega)]
      split
      · exact ih (i + 1) k2 (by omega) (by omega)
      · exact ⟨_, rfl⟩
  exact key 3 0 k (by omega) (by omega)
end Go.Proofs.Ytcefiblpnegepaa.T
