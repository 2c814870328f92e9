/- What FnPageText tells is true. -/
import Derived.Test.YtajdjoggflagdaaDoorTxP
import Derived.Test.YtajdjoggflagdaaDoorPrDPO
import Derived.Test.YtajdjoggflagdaaDoorPrLawPT
namespace Go.Proofs.YtajdjoggflagdaaDoor.T
open Go.RowKit Go.Proofs.YtajdjoggflagdaaDoorW.PrintWords Go.Proofs.YtajdjoggflagdaaDoor.Pr
set_option linter.unusedSimpArgs false
set_option linter.unusedVariables false
theorem ltInts_l (a b : List Int) (hl : a.length = b.length) (hm : a.length ≤ 9223372036854775807) : ∀ (d k i : Nat), i + d = a.length → d < k → laws_ltInts.l0 k a b i = some (decide (a.drop i = b.drop i))
  | 0, k + 1, i, hi, _ => by
    unfold laws_ltInts.l0
    rw [if_neg (by omega), List.drop_of_length_le (by omega), List.drop_of_length_le (by omega)]
    rfl
  | d + 1, k + 1, i, hi, hk => by
    unfold laws_ltInts.l0
    rw [if_pos (by omega), if_pos (by omega), if_pos (by omega), T.wrap_small (by omega) (by omega)]
    have ih := ltInts_l a b hl hm d k (i + 1) (by omega) (by omega)
    rw [show (i : Int) + 1 = ((i + 1 : Nat) : Int) by omega, ih, rd_drop (l := a) (i := i) (by omega), rd_drop (l := b) (i := i) (by omega)]
    by_cases h : rd a i = rd b i
    · simp [h]
    · simp [h]
theorem ltInts_k (a b : List Int) (hm : a.length ≤ 9223372036854775807) (k : Nat) (hk : a.length < k) : laws_ltInts.f k a b = some (decide (a = b)) := by
  unfold laws_ltInts.f
  by_cases h : a.length = b.length
  · rw [if_pos (by omega)]
    have e := ltInts_l a b h hm a.length k 0 (by omega) hk
    simpa using e
  · rw [if_neg (by omega)]
    have : a ≠ b := fun e => h (by rw [e])
    simp [this]
theorem ltHas_k (a b : Int) (l : List Int) (a1 b1 : Int) (l1 : List Int) (hm : l.length ≤ 9223372036854775807) (k : Nat) (hk : l.length < k) : laws_ltHas.f k a b l a1 b1 l1 = some (decide (b = b1 ∧ l = l1)) := by
  unfold laws_ltHas.f
  rw [ltInts_k l l1 hm k hk]
  by_cases h2 : b = b1 <;> simp [h2]
theorem DrawPageOk_k (l : List Int) (hby : Bytes l) (k : Nat) : ∃ a b v, spec_DrawPageOk.f (k + 6) l = some (a, b, v) ∧ v.length ≤ 3 := by
  obtain ⟨b, hf, hl, hm⟩ := open_f l
  have hb : Bytes b := fun x hx => hby x (hm x hx)
  unfold spec_DrawPageOk.f
  obtain ⟨q1, q2, q3, p, e1, h3, p1, p2⟩ := l71P_k b hb hl 0 (by omega) (by omega) k
  obtain ⟨r0, f0, _⟩ := pick_k b hb hl p 5 (by omega) (by omega) (by omega) (k + 5)
  have f0' : spec_l6Rd_pick.f (k + 6) b p 5 = some (r0, p + 1) := f0
  obtain ⟨r1, f1, g1, g2⟩ := pick_k b hb hl (p + 1) 3 (by omega) (by omega) (by omega) (k + 5)
  have f1' : spec_l6Rd_pick.f (k + 6) b (p + 1) 3 = some (r1, p + 1 + 1) := f1
  simp only [hf, Option.bind_some, e1, f0', f1']
  split
  · rw [if_pos (by simp; omega)]
    exact ⟨_, _, _, rfl, h3⟩
  · exact ⟨_, _, _, rfl, h3⟩
theorem PureFnPageText (l l1 : List Int) (hby : Bytes l) (hby1 : Bytes l1) : ∃ k, laws_FnPageText.f k l l1 = some true := by
  refine ⟨22, ?_⟩
  have key : ∀ x : Bool, laws_FnPageText.j0 22 l l1 x = some true := by
    intro x
    rw [show (22 : Nat) = 21 + 1 from rfl, laws_FnPageText.j0]
    cases x with
    | true => rfl
    | false =>
      simp only [Bool.false_eq_true, if_false]
      obtain ⟨a, b, v, e, h3⟩ := DrawPageText_k l hby 15
      obtain ⟨a', b', v', e', h3'⟩ := DrawPageOk_k l1 hby1 15
      simp only [e, e', Option.bind_some, impl_PageText.f]
      rw [spec_PageText_k a b v (by omega) _ (by omega)]
      simp only [Option.bind_some, if_true]
      have done : laws_FnPageText.j1 21 (pageTextB a b v) (pageTextB a' b' v') true a b v a' b' v' = some true := by
        rw [show (21 : Nat) = 20 + 1 from rfl, laws_FnPageText.j1]
        simp only [if_true]
        rw [spec_PageText_k a b v (by omega) _ (by omega)]
        simp
      by_cases hs : (pageTextB a b v).toList = []
      · rw [if_pos hs]
        exact done
      · rw [if_neg hs]
        by_cases ht : (pageTextB a' b' v').toList = []
        · rw [show ((pageTextB a' b' v').toList == ([] : List UInt8)) = true by simp [ht]]
          exact done
        · rw [show ((pageTextB a' b' v').toList == ([] : List UInt8)) = false by simp [ht], show (21 : Nat) = 20 + 1 from rfl, laws_FnPageText.j1]
          have ok : pageOkB a b v = true := by
            cases q : pageOkB a b v with
            | true => rfl
            | false => exact absurd (by rw [pageText_list, q]; rfl) hs
          have ok' : pageOkB a' b' v' = true := by
            cases q : pageOkB a' b' v' with
            | true => rfl
            | false => exact absurd (by rw [pageText_list, q]; rfl) ht
          have ok0 : pageOkB 0 b v = true := by
            rw [pageOkB_at] at ok ⊢
            simp only [Bool.and_eq_true] at ok ⊢
            exact ⟨⟨⟨by simp [inB], ok.1.1.2⟩, ok.1.2⟩, ok.2⟩
          simp only [Bool.false_eq_true, if_false]
          rw [ltHas_k _ _ _ _ _ _ (by omega) _ (by omega)]
          simp only [Option.bind_some, impl_PageText.f]
          have hsame : ((pageTextB a b v).toList == (pageTextB a' b' v').toList) = decide (b = b' ∧ v = v') := by
            rw [pageText_list, pageText_list, ok, ok', if_pos rfl, if_pos rfl, Bool.eq_iff_iff]
            simp only [beq_iff_eq, decide_eq_true_eq]
            constructor
            · exact fun h => txt_inj ok ok' h
            · rintro ⟨rfl, rfl⟩
              rfl
          rw [hsame]
          have h0 : (pageTextB 0 b v).toList = (pageTextB a b v).toList := by
            rw [pageText_list, pageText_list, ok, ok0]
          simp only [beq_self_eq_true, if_true]
          rw [if_pos h0]
          have h7 : (pageTextB a b v).size = 7 := by
            unfold pageTextB
            rw [if_pos ok]
            have := txt_seven ok
            show (txtL b v).toArray.size = 7
            simpa using this
          rw [h7]
          rfl
  unfold laws_FnPageText.f
  split
  · exact key _
  · exact key _
/-- The walk of the law: its printed contract, at the plain law. -/
theorem FnPageText_walk (A : Option Addr) (c : Nat) (l : List Int) (A1 : Option Addr) (c1 : Nat) (l1 : List Int) (w : World) (hc : l.length ≤ c) (hC : Kd.C (Kd.int .u8) w A l.length l) (hby : Bytes l) (hc1 : l1.length ≤ c1) (hC1 : Kd.C (Kd.int .u8) w A1 l1.length l1) (hby1 : Bytes l1) :
    Calls Tryd.prog 5 #[.slice A l.length c, .slice A1 l1.length c1] w fun e w' => e = .returned (.bool true) ∧ Below w.heap.size w w' := by
  obtain ⟨k, h⟩ := PureFnPageText l l1 hby hby1
  exact laws_FnPageText.calls k A c l A1 c1 l1 true w hC hc hC1 hc1 h ⟨rfl⟩
end Go.Proofs.YtajdjoggflagdaaDoor.T
