/- What impl.RecRead tells: a record and true just of a text that is the record's. -/
import Derived.Test.YtajdjoggflagdaaDoorRRx
import Derived.Test.YtajdjoggflagdaaDoorTxT
import Derived.Lib.SplitLaws
namespace Go.Proofs.YtajdjoggflagdaaDoor.T
open Go.RowKit Go.Proofs.YtajdjoggflagdaaDoorW.PrintWords Go.Proofs.YtajdjoggflagdaaDoor.Pr
set_option linter.unusedSimpArgs false
set_option linter.unusedVariables false
theorem splitO_k (s : ByteArray) (h : s.size < 4294967281) : splitO s = some (splitL s) := by
  have h1 : (splitL s).length = Lib.countB s ⟨#[32]⟩ + 1 := Lib.splitB_all ⟨#[32]⟩ (by decide) 0 _ s rfl
  have h2 := Lib.countB_le ⟨#[32]⟩ (by decide) s.size s (Nat.le_refl _)
  unfold splitO
  rw [if_pos ⟨h, h1, by omega⟩]
theorem splitB_mem : ∀ (k : Nat) (s x : ByteArray), x ∈ Lib.splitB ⟨#[32]⟩ 0 k s → x.size ≤ s.size
  | 0, s, x, h => by
    simp only [Lib.splitB, List.mem_singleton] at h
    subst h
    exact Nat.le_refl _
  | k + 1, s, x, h => by
    unfold Lib.splitB at h
    split at h
    · simp only [List.mem_singleton] at h
      subst h
      exact Nat.le_refl _
    · rcases List.mem_cons.mp h with h | h
      · subst h
        rw [ByteArray.size_extract]; omega
      · have := splitB_mem k _ x h
        rw [ByteArray.size_extract] at this
        omega
theorem atoiO_k (s : ByteArray) (h : s.size ≤ 281474976710656) : atoiO s = some (atoiV s) := by
  unfold atoiO
  rw [if_pos h]
theorem rdOf_mem (l : List ByteArray) (i : Nat) (h : i < l.length) : rdOf ByteArray.empty l (i : Int) ∈ l := by
  have : rdOf ByteArray.empty l (i : Int) = l[i] := by simp [rdOf, List.getD_eq_getElem?_getD, List.getElem?_eq_getElem h]
  rw [this]
  exact List.getElem_mem h
theorem RecRead_any (s : ByteArray) (h : s.size < 4294967281) (j : Nat) : ∃ c0 c1 c2 c3 c4 c5 c6 c7 b, impl_RecRead.f (j + 10) s = some (c0, c1, c2, c3, c4, c5, c6, c7, b) ∧
    (b = true → recOkB c0 c1 c2 c3 c4 c5 c6 c7 = true ∧ (recTextB c0 c1 c2 c3 c4 c5 c6 c7).toList = s.toList) ∧ (b = false → c0 = 0 ∧ c1 = 0 ∧ c2 = 0 ∧ c3 = 0 ∧ c4 = 0 ∧ c5 = 0 ∧ c6 = 0 ∧ c7 = 0) := by
  unfold impl_RecRead.f
  rw [splitO_k s h]
  simp only [Option.bind_some]
  have key : ∀ x : Bool, (x = false → (splitL s).length = 8 ∧ s.size ≤ 30) → ∃ c0 c1 c2 c3 c4 c5 c6 c7 b, impl_RecRead.j0 (j + 10) s (splitL s) x = some (c0, c1, c2, c3, c4, c5, c6, c7, b) ∧
      (b = true → recOkB c0 c1 c2 c3 c4 c5 c6 c7 = true ∧ (recTextB c0 c1 c2 c3 c4 c5 c6 c7).toList = s.toList) ∧ (b = false → c0 = 0 ∧ c1 = 0 ∧ c2 = 0 ∧ c3 = 0 ∧ c4 = 0 ∧ c5 = 0 ∧ c6 = 0 ∧ c7 = 0) := by
    intro x hx
    rw [show j + 10 = (j + 9) + 1 from rfl, impl_RecRead.j0]
    cases x with
    | true => exact ⟨0, 0, 0, 0, 0, 0, 0, 0, false, rfl, (fun h => by cases h), fun _ => ⟨rfl, rfl, rfl, rfl, rfl, rfl, rfl, rfl⟩⟩
    | false =>
      obtain ⟨h8, h30⟩ := hx rfl
      have hsz : ∀ i : Nat, i < 8 → (rdOf ByteArray.empty (splitL s) (i : Int)).size ≤ 281474976710656 := by
        intro i hi
        have := splitB_mem _ s _ (rdOf_mem (splitL s) i (by omega))
        omega
      simp only [Bool.false_eq_true, if_false, impl_recNames.f, Option.bind_some, h8]
      have hidx : idxO [(⟨#[]⟩ : ByteArray), (⟨#[112, 117, 116]⟩ : ByteArray), (⟨#[111, 119, 110]⟩ : ByteArray), (⟨#[108, 111, 97, 100]⟩ : ByteArray), (⟨#[100, 111, 110, 101]⟩ : ByteArray), (⟨#[101, 110, 100]⟩ : ByteArray), (⟨#[117, 110, 100, 111]⟩ : ByteArray)] (rdOf ByteArray.empty (splitL s) 0) = some (Lib.idxOfS [(⟨#[]⟩ : ByteArray), (⟨#[112, 117, 116]⟩ : ByteArray), (⟨#[111, 119, 110]⟩ : ByteArray), (⟨#[108, 111, 97, 100]⟩ : ByteArray), (⟨#[100, 111, 110, 101]⟩ : ByteArray), (⟨#[101, 110, 100]⟩ : ByteArray), (⟨#[117, 110, 100, 111]⟩ : ByteArray)] (rdOf ByteArray.empty (splitL s) 0)) := by
        unfold idxO
        rw [if_pos (by simp)]
      have a1 : atoiO (rdOf ByteArray.empty (splitL s) 1) = some (atoiV (rdOf ByteArray.empty (splitL s) 1)) := atoiO_k _ (hsz 1 (by omega))
      have a2 : atoiO (rdOf ByteArray.empty (splitL s) 2) = some (atoiV (rdOf ByteArray.empty (splitL s) 2)) := atoiO_k _ (hsz 2 (by omega))
      have a3 : atoiO (rdOf ByteArray.empty (splitL s) 3) = some (atoiV (rdOf ByteArray.empty (splitL s) 3)) := atoiO_k _ (hsz 3 (by omega))
      have a4 : atoiO (rdOf ByteArray.empty (splitL s) 4) = some (atoiV (rdOf ByteArray.empty (splitL s) 4)) := atoiO_k _ (hsz 4 (by omega))
      have a5 : atoiO (rdOf ByteArray.empty (splitL s) 5) = some (atoiV (rdOf ByteArray.empty (splitL s) 5)) := atoiO_k _ (hsz 5 (by omega))
      have a6 : atoiO (rdOf ByteArray.empty (splitL s) 6) = some (atoiV (rdOf ByteArray.empty (splitL s) 6)) := atoiO_k _ (hsz 6 (by omega))
      have a7 : atoiO (rdOf ByteArray.empty (splitL s) 7) = some (atoiV (rdOf ByteArray.empty (splitL s) 7)) := atoiO_k _ (hsz 7 (by omega))
      simp only [hidx, a1, a2, a3, a4, a5, a6, a7, Option.bind_some]
      generalize Lib.idxOfS [(⟨#[]⟩ : ByteArray), (⟨#[112, 117, 116]⟩ : ByteArray), (⟨#[111, 119, 110]⟩ : ByteArray), (⟨#[108, 111, 97, 100]⟩ : ByteArray), (⟨#[100, 111, 110, 101]⟩ : ByteArray), (⟨#[101, 110, 100]⟩ : ByteArray), (⟨#[117, 110, 100, 111]⟩ : ByteArray)] (rdOf ByteArray.empty (splitL s) 0) = v0
      generalize atoiV (rdOf ByteArray.empty (splitL s) 1) = v1
      generalize atoiV (rdOf ByteArray.empty (splitL s) 2) = v2
      generalize atoiV (rdOf ByteArray.empty (splitL s) 3) = v3
      generalize atoiV (rdOf ByteArray.empty (splitL s) 4) = v4
      generalize atoiV (rdOf ByteArray.empty (splitL s) 5) = v5
      generalize atoiV (rdOf ByteArray.empty (splitL s) 6) = v6
      generalize atoiV (rdOf ByteArray.empty (splitL s) 7) = v7
      have ht := impl_RecText_k v0 v1 v2 v3 v4 v5 v6 v7 (j + 1)
      have ht' : impl_RecText.f (j + 9) v0 v1 v2 v3 v4 v5 v6 v7 = some (recTextB v0 v1 v2 v3 v4 v5 v6 v7) := ht
      simp only [impl_RecOk.f, Option.bind_some, ht']
      repeat (rw [if_pos (by decide)])
      cases ok : recOkB v0 v1 v2 v3 v4 v5 v6 v7 with
      | false => exact ⟨0, 0, 0, 0, 0, 0, 0, 0, false, rfl, (fun h => by cases h), fun _ => ⟨rfl, rfl, rfl, rfl, rfl, rfl, rfl, rfl⟩⟩
      | true =>
        simp only [if_true]
        by_cases he : (recTextB v0 v1 v2 v3 v4 v5 v6 v7).toList = s.toList
        · rw [if_pos he]
          exact ⟨v0, v1, v2, v3, v4, v5, v6, v7, true, rfl, (fun _ => ⟨ok, he⟩), fun h => by cases h⟩
        · rw [if_neg he]
          exact ⟨0, 0, 0, 0, 0, 0, 0, 0, false, rfl, (fun h => by cases h), fun _ => ⟨rfl, rfl, rfl, rfl, rfl, rfl, rfl, rfl⟩⟩
  by_cases h30 : (s.size : Int) > 30
  · rw [if_pos h30]
    exact key true (fun h => by cases h)
  · rw [if_neg h30]
    refine key _ (fun hx => ?_)
    simp only [bne_eq_false_iff_eq] at hx
    exact ⟨by omega, by omega⟩
end Go.Proofs.YtajdjoggflagdaaDoor.T
