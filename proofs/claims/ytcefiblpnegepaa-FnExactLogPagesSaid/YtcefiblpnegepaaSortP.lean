/- Plain lists: a list of numbers from 0 to 4, sorted and with neighbours that are equal struck out, is those of 0 to 4 that are in it. -/
import Derived.Lib.SlicesCompact
namespace Go.Proofs.Ytcefiblpnegepaa.T
open Go.Lib
theorem compact_mem (zs : List Int) (x : Int) : x ∈ compact zs ↔ x ∈ zs := by
  unfold compact compactUpTo
  simp only [List.mem_map, List.mem_filter, List.mem_range]
  constructor
  · rintro ⟨j, ⟨hj, _⟩, rfl⟩
    have : zs.toArray[j]! = zs[j] := by simp [hj]
    rw [this]
    exact List.getElem_mem hj
  · intro hx
    obtain ⟨i, hi, rfl⟩ := List.getElem_of_mem hx
    -- the first place that holds it
    have key : ∀ n, n < zs.length → ∃ j, (j < zs.length ∧ keeps zs.toArray j = true) ∧ zs.toArray[j]! = zs.toArray[n]! := by
      intro n
      induction n with
      | zero => exact fun h => ⟨0, ⟨h, keeps_lt_one _ _ (by omega)⟩, rfl⟩
      | succ n ih =>
        intro h
        by_cases e : zs.toArray[n + 1]! = zs.toArray[n]!
        · obtain ⟨j, hj, he⟩ := ih (by omega)
          exact ⟨j, hj, he.trans e.symm⟩
        · exact ⟨n + 1, ⟨h, keeps_pos (by simpa using e)⟩, rfl⟩
    obtain ⟨j, hj, he⟩ := key i hi
    refine ⟨j, hj, ?_⟩
    rw [he]
    simp [hi]
theorem compact_lt (zs : List Int) (h : List.Pairwise (fun a b => a ≤ b) zs) : List.Pairwise (fun a b => a < b) (compact zs) := by
  unfold compact compactUpTo
  rw [List.pairwise_map, List.pairwise_iff_getElem] at *
  intro i j hi hj hij
  have hs : List.Pairwise (fun a b => a < b) ((List.range zs.length).filter (keeps zs.toArray)) := List.Pairwise.filter _ List.pairwise_lt_range
  have h1 := List.pairwise_iff_getElem.mp hs i j hi hj hij
  generalize ea : ((List.range zs.length).filter (keeps zs.toArray))[i] = a at h1
  generalize eb : ((List.range zs.length).filter (keeps zs.toArray))[j] = b at h1
  have ma : a ∈ (List.range zs.length).filter (keeps zs.toArray) := ea ▸ List.getElem_mem hi
  have mb : b ∈ (List.range zs.length).filter (keeps zs.toArray) := eb ▸ List.getElem_mem hj
  simp only [List.mem_filter, List.mem_range] at ma mb
  have kb := mb.2
  unfold keeps at kb
  simp only [decide_eq_true_eq] at kb
  have hb0 : b ≠ 0 := by omega
  have hne := kb.resolve_left hb0
  have g : ∀ n (hn : n < zs.length), zs.toArray[n]! = zs[n] := fun n hn => by simp [hn]
  rw [g b mb.1, g (b - 1) (by omega)] at hne
  rw [g a ma.1, g b mb.1]
  have h2 : zs[b - 1] ≤ zs[b] := h (b - 1) b (by omega) mb.1 (by omega)
  have h3 : zs[a] ≤ zs[b - 1] := by
    by_cases e : a = b - 1
    · subst e
      exact Int.le_refl _
    · exact h a (b - 1) ma.1 (by omega) (by omega)
  omega
theorem lt_unique : ∀ (a b : List Int), List.Pairwise (fun x y => x < y) a → List.Pairwise (fun x y => x < y) b → (∀ x, x ∈ a ↔ x ∈ b) → a = b
  | [], [], _, _, _ => rfl
  | [], y :: b, _, _, h => absurd ((h y).mpr (by simp)) (by simp)
  | x :: a, [], _, _, h => absurd ((h x).mp (by simp)) (by simp)
  | x :: a, y :: b, ha, hb, h => by
    rw [List.pairwise_cons] at ha hb
    have e : x = y := by
      have h1 := (h x).mp (by simp)
      have h2 := (h y).mpr (by simp)
      simp only [List.mem_cons] at h1 h2
      rcases h1 with h1 | h1
      · exact h1
      · rcases h2 with h2 | h2
        · exact h2.symm
        · have := ha.1 _ h2
          have := hb.1 _ h1
          omega
    subst e
    congr 1
    refine lt_unique a b ha.2 hb.2 fun z => ?_
    have hz := h z
    simp only [List.mem_cons] at hz
    constructor
    · intro hm
      rcases hz.mp (.inr hm) with e | e
      · have := ha.1 _ hm
        omega
      · exact e
    · intro hm
      rcases hz.mpr (.inr hm) with e | e
      · have := hb.1 _ hm
        omega
      · exact e
/-- What pagesOf does with what it gathered. -/
def sortC (zs : List Int) : List Int := compact (zs.mergeSort fun x y => decide (x ≤ y))
theorem sortC_eq (zs : List Int) (h : ∀ x ∈ zs, 0 ≤ x ∧ x < 5) : sortC zs = ([0, 1, 2, 3, 4] : List Int).filter (fun p => zs.any (fun x => x == p)) := by
  have hs : List.Pairwise (fun a b : Int => a ≤ b) (zs.mergeSort fun x y => decide (x ≤ y)) := by
    have := List.pairwise_mergeSort (le := fun x y : Int => decide (x ≤ y)) (by simp; omega) (by simp; omega) zs
    exact this.imp (by simp)
  refine lt_unique _ _ (compact_lt _ hs) (List.Pairwise.filter _ (by decide)) fun x => ?_
  unfold sortC
  rw [compact_mem, List.mem_mergeSort, List.mem_filter, List.any_eq_true]
  constructor
  · intro hx
    have := h x hx
    refine ⟨?_, x, hx, by simp⟩
    have h5 : x = 0 ∨ x = 1 ∨ x = 2 ∨ x = 3 ∨ x = 4 := by omega
    simpa using h5
  · rintro ⟨_, y, hy, e⟩
    rw [beq_iff_eq] at e
    exact e ▸ hy
theorem sortC_len (zs : List Int) : (sortC zs).length ≤ zs.length := by
  unfold sortC compact compactUpTo
  rw [List.length_map]
  exact Nat.le_trans (List.length_filter_le _ _) (by simp)
end Go.Proofs.Ytcefiblpnegepaa.T
