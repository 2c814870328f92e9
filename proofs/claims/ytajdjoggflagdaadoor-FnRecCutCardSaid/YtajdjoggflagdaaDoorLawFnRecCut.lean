/- What FnRecCut tells is true; the walk of the law. -/
import Derived.Test.YtajdjoggflagdaaDoorRRp
import Derived.Test.YtajdjoggflagdaaDoorPrLawRC
namespace Go.Proofs.YtajdjoggflagdaaDoor.T
open Go.RowKit Go.Proofs.YtajdjoggflagdaaDoorW.PrintWords Go.Proofs.YtajdjoggflagdaaDoor.Pr
set_option linter.unusedSimpArgs false
set_option linter.unusedVariables false
theorem ba_list (b : ByteArray) : b.toList = b.data.toList := by
  cases b with
  | mk d =>
    have := toList_mkR d.toList
    simpa using this
theorem flat_count : ∀ ns : List Int, (ns.flatMap (fun x => 32 :: Lib.itoa x)).count (32 : UInt8) = ns.length
  | [] => rfl
  | n :: ns => by
    rw [List.flatMap_cons, List.count_append, List.count_cons, List.count_eq_zero.mpr (itoa_no32 n), flat_count ns]
    simp
    omega
theorem recL_count (k : Int) (h : 1 ≤ k ∧ k ≤ 6) (ns : List Int) : (recL k ns).count (32 : UInt8) = ns.length := by
  unfold recL
  rw [List.count_append, List.count_eq_zero.mpr (name_no32 k h.1 h.2), flat_count, Nat.zero_add]
theorem PureFnRecCut (l : List Int) (hby : Bytes l) : laws_FnRecCut.f 11 l = some true := by
  unfold laws_FnRecCut.f
  split
  · rfl
  obtain ⟨a0, a1, a2, a3, a4, a5, a6, a7, e⟩ := DrawRecText_k l hby 9
  have e' : spec_DrawRecText.f 11 l = some (a0, a1, a2, a3, a4, a5, a6, a7) := e
  have s1 : spec_RecText.f 11 a0 a1 a2 a3 a4 a5 a6 a7 = some (recTextB a0 a1 a2 a3 a4 a5 a6 a7) := spec_RecText_k a0 a1 a2 a3 a4 a5 a6 a7 6
  have s2 : spec_RecText.f 10 a0 a1 a2 a3 a4 a5 a6 a7 = some (recTextB a0 a1 a2 a3 a4 a5 a6 a7) := spec_RecText_k a0 a1 a2 a3 a4 a5 a6 a7 5
  have i1 : impl_RecText.f 11 a0 a1 a2 a3 a4 a5 a6 a7 = some (recTextB a0 a1 a2 a3 a4 a5 a6 a7) := impl_RecText_k a0 a1 a2 a3 a4 a5 a6 a7 3
  simp only [e', Option.bind_some, s1, i1, if_true]
  rw [show (11 : Nat) = 10 + 1 from rfl, laws_FnRecCut.j0]
  by_cases hn : (recTextB a0 a1 a2 a3 a4 a5 a6 a7).toList = []
  · rw [hn]
    simp only [s2, Option.bind_some]
    rw [hn]
    rfl
  · have ok : recOkB a0 a1 a2 a3 a4 a5 a6 a7 = true := by
      cases q : recOkB a0 a1 a2 a3 a4 a5 a6 a7 with
      | true => rfl
      | false => exact absurd (by rw [recText_list, q]; rfl) hn
    have hok := recOk_small ok
    have hl : (recTextB a0 a1 a2 a3 a4 a5 a6 a7).toList = recL a0 [a1, a2, a3, a4, a5, a6, a7] := by rw [recText_list, if_pos ok]
    have hall : ∀ x ∈ [a1, a2, a3, a4, a5, a6, a7], -1 ≤ x ∧ x < 1000 := by
      intro x hx
      simp only [List.mem_cons, List.not_mem_nil, or_false] at hx
      omega
    have hlen := recL_len a0 hok.1.1 hok.1.2 _ hall
    have hcnt := recL_count a0 hok.1 [a1, a2, a3, a4, a5, a6, a7]
    have hb : ((recTextB a0 a1 a2 a3 a4 a5 a6 a7).toList == ([] : List UInt8)) = false := by simp [hn]
    rw [hb]
    generalize hs : recTextB a0 a1 a2 a3 a4 a5 a6 a7 = s at hn hl hb ⊢
    have hd : s.data.toList = recL a0 [a1, a2, a3, a4, a5, a6, a7] := by rw [← ba_list, hl]
    have hz : s.size = (recL a0 [a1, a2, a3, a4, a5, a6, a7]).length := by rw [← hd]; rfl
    have hz1 : 1 ≤ s.size := by
      rw [hz, ← hl]
      cases h : s.toList with
      | nil => exact absurd h hn
      | cons c t => simp
    have hz2 : s.size ≤ 32 := by rw [hz]; simpa using hlen
    simp only [Bool.false_eq_true, if_false]
    rw [T.wrap_small (x := (s.size : Int) - 1) (by omega) (by omega), if_pos (by omega), if_pos (by omega)]
    obtain ⟨c0, c1, c2, c3, c4, c5, c6, c7, b1, f1, g1, _⟩ := RecRead_any (s.extract 0 ((s.size : Int) - 1).toNat) (by rw [ByteArray.size_extract]; omega) 0
    obtain ⟨d0, d1, d2, d3, d4, d5, d6, d7, b2, f2, g2, _⟩ := RecRead_any (s ++ (⟨#[32]⟩ : ByteArray)) (by rw [ByteArray.size_append, size32]; omega) 0
    obtain ⟨u0, u1, u2, u3, u4, u5, u6, u7, b3, f3, g3, _⟩ := RecRead_any (s ++ (⟨#[32, 48]⟩ : ByteArray)) (by rw [ByteArray.size_append]; show s.size + 2 < _; omega) 0
    have f1' : impl_RecRead.f 10 (s.extract 0 ((s.size : Int) - 1).toNat) = some (c0, c1, c2, c3, c4, c5, c6, c7, b1) := f1
    have f2' : impl_RecRead.f 10 (s ++ (⟨#[32]⟩ : ByteArray)) = some (d0, d1, d2, d3, d4, d5, d6, d7, b2) := f2
    have f3' : impl_RecRead.f 10 (s ++ (⟨#[32, 48]⟩ : ByteArray)) = some (u0, u1, u2, u3, u4, u5, u6, u7, b3) := f3
    have hb2 : b2 = false := by
      cases b2 with
      | false => rfl
      | true =>
        obtain ⟨h1, h2⟩ := g2 rfl
        rw [recText_list, if_pos h1, ba_list] at h2
        have h3 := congrArg (List.count (32 : UInt8)) h2
        have h4 : (s ++ (⟨#[32]⟩ : ByteArray)).data.toList = s.data.toList ++ [32] := by simp
        rw [recL_count d0 (recOk_small h1).1, h4, hd, List.count_append, hcnt] at h3
        simp at h3
    have hb3 : b3 = false := by
      cases b3 with
      | false => rfl
      | true =>
        obtain ⟨h1, h2⟩ := g3 rfl
        rw [recText_list, if_pos h1, ba_list] at h2
        have h3 := congrArg (List.count (32 : UInt8)) h2
        have h4 : (s ++ (⟨#[32, 48]⟩ : ByteArray)).data.toList = s.data.toList ++ [32, 48] := by simp
        rw [recL_count u0 (recOk_small h1).1, h4, hd, List.count_append, hcnt] at h3
        simp at h3
    subst hb2 hb3
    simp only [f1', f2', f3', Option.bind_some]
    rw [if_pos (by omega), if_pos (by omega)]
    cases b1 with
    | false => rfl
    | true =>
      obtain ⟨h1, h2⟩ := g1 rfl
      have hne : ¬ (c0 = a0 ∧ c1 = a1 ∧ c2 = a2 ∧ c3 = a3 ∧ c4 = a4 ∧ c5 = a5 ∧ c6 = a6 ∧ c7 = a7) := by
        rintro ⟨rfl, rfl, rfl, rfl, rfl, rfl, rfl, rfl⟩
        rw [hs, ba_list, ba_list, Lib.extract_from_zero] at h2
        have h3 := congrArg List.length h2
        rw [List.length_take] at h3
        have h4 : s.data.toList.length = s.size := rfl
        omega
      simp only [if_true]
      rw [if_pos]
      · rfl
      · simp only [Bool.or_eq_true, Bool.not_eq_true', beq_eq_false_iff_ne, ne_eq]
        apply Classical.byContradiction
        intro hc
        simp only [not_or, Classical.not_not] at hc
        exact hne hc
theorem FnRecCut_walk (A : Option Addr) (c : Nat) (l : List Int) (w : World) (hdoor : Door w) (hc : l.length ≤ c) (hC : Kd.C (Kd.int .u8) w A l.length l) (hby : Bytes l) :
    Calls Tryd.prog 9 #[.slice A l.length c] w fun e w' => e = .returned (.bool true) ∧ Below w.heap.size w w' :=
  laws_FnRecCut.calls 11 A c l true w hdoor hC hc (PureFnRecCut l hby) ⟨rfl⟩
end Go.Proofs.YtajdjoggflagdaaDoor.T
