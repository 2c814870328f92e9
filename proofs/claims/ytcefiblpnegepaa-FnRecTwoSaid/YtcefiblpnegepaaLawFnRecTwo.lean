/- What FnRecTwo tells is true. -/
import Derived.Test.YtcefiblpnegepaaDoP
import Derived.Test.YtcefiblpnegepaaDrawPage
import Derived.Test.YtcefiblpnegepaaPrTwo
namespace Go.Proofs.Ytcefiblpnegepaa.T
open Go.RowKit Go.Proofs.YtcefiblpnegepaaW.PrintWords Go.Proofs.Ytcefiblpnegepaa.Pr
set_option linter.unusedSimpArgs false
set_option linter.unusedVariables false
theorem recOkB_page {k tx p s o n pv nx : Int} (h : recOkB k tx p s o n pv nx = true) (hs : 0 ≤ s) (hk : (k == 1 || k == 2 || k == 6) = true) : inB p 0 4 = true := by
  unfold recOkB at h
  simp only [Bool.and_eq_true] at h
  obtain ⟨⟨h1, _⟩, _⟩ := h
  by_cases e1 : k = 1
  · rw [if_pos e1] at h1
    simp only [Bool.and_eq_true] at h1
    exact h1.1.1.1.1
  · rw [if_neg e1] at h1
    by_cases e2 : k = 2
    · rw [if_pos e2] at h1
      simp only [Bool.and_eq_true] at h1
      exact h1.1.1.1.1
    · rw [if_neg e2] at h1
      by_cases e6 : k = 6
      · subst e6
        rw [if_neg (by omega), if_neg (by omega), if_pos rfl] at h1
        simp only [Bool.and_eq_true] at h1
        exact h1.1.1.1.1
      · exfalso
        simp [e1, e2, e6] at hk
/-- The record of the law. -/
theorem recOkB_four {p s : Int} (hp : inB p 0 4 = true) (h0 : 0 ≤ s) (h1 : s < 3) : recOkB 1 2 p s 0 4 0 0 = true := by
  unfold recOkB
  rw [if_pos rfl, hp]
  have : inB s 0 2 = true := by simp [inB]; omega
  rw [this]
  rfl
theorem okFour {a b a' : Int} {l : List Int} {i : Nat} (hl : l.length = 3) (hi : i < 3) (h : pageOkB a b l = true) (h0 : 0 ≤ a') (h1 : a' ≤ 150) : pageOkB a' b (l.set i 4) = (b != 0) := by
  match l, hl with
  | [x, y, z], _ =>
    rw [pageOkB_at] at h ⊢
    have hi3 : i = 0 ∨ i = 1 ∨ i = 2 := by omega
    have ha : inB a' 0 150 = true := by simp [inB]; omega
    simp only [Bool.and_eq_true, List.any_cons, List.any_nil, Bool.or_false, Bool.not_eq_true', Bool.or_eq_false_iff, badAt] at h
    obtain ⟨⟨⟨_, hb⟩, _⟩, hx, hy, hz⟩ := h
    rw [ha, hb]
    have h4 : inB 4 0 9 = true := rfl
    rcases hi3 with rfl | rfl | rfl
    all_goals
      simp only [List.set_cons_zero, List.set_cons_succ, List.any_cons, List.any_nil, badAt, hx.1, hy.1, hz.1, h4]
      by_cases e : b = 0
      · simp [e]
      · have e2 : (b == 0) = false := by simp [e]
        have e3 : (b != 0) = true := by simp [e]
        simp [e2, e3]
theorem wrapS {s m : Int} (h0 : 0 ≤ s) (h1 : s < 3) (m0 : 0 ≤ m) (m1 : m < 2) : Int.tmod (wrap64 ((wrap64 (s + 1)) + m)) 3 = (s + 1 + m) % 3 := by
  rw [T.wrap_small (x := s + 1) (by omega) (by omega), T.wrap_small (by omega) (by omega), Int.tmod_eq_emod_of_nonneg (by omega)]
theorem PureFnRecTwo (l l1 : List Int) (hby : Bytes l) (hby1 : Bytes l1) : ∃ k, laws_FnRecTwo.f k l l1 = some true := by
  refine ⟨22, ?_⟩
  have key : ∀ x : Bool, laws_FnRecTwo.j0 22 l l1 x = some true := by
    intro x
    rw [show (22 : Nat) = 21 + 1 from rfl, laws_FnRecTwo.j0]
    cases x with
    | true => rfl
    | false =>
      simp only [Bool.false_eq_true, if_false]
      obtain ⟨a, b, v, a0, a1, a2, a3, a4, a5, a6, a7, n, e, h3⟩ := DrawRecDo_k l hby 15
      simp only [e, Option.bind_some]
      rw [specDo_k _ _ _ _ _ _ _ _ _ _ _ _ (by omega) _ (by omega), implDo_k _ _ _ _ _ _ _ _ _ _ _ _ (by omega) _ (by omega)]
      have hd := doB_len a b v a0 a1 a2 a3 a4 a5 a6 a7 n
      have done : ∀ (q1 q2 : Int) (q3 : List Int) (q4 : Bool) (c1 c2 c3 c4 c5 c6 c7 c8 c9 c10 c11 c12 : Int) (v' : List Int), q3.length ≤ 3 → laws_FnRecTwo.j1 21 l1 c12 q4 q4 true c1 c2 v' c3 c4 c5 c6 c7 c8 c9 c10 q1 q2 q3 q1 q2 q3 = some true := by
        intro q1 q2 q3 q4 c1 c2 c3 c4 c5 c6 c7 c8 c9 c10 c11 c12 v' hq
        rw [show (21 : Nat) = 20 + 1 from rfl, laws_FnRecTwo.j1]
        simp only [if_true, beq_self_eq_true]
        rw [ltPage_k _ _ _ _ _ _ (by omega) _ (by omega)]
        simp
      cases hdid : didB a b v a0 a1 a2 a3 a4 a5 a6 a7 n with
      | false =>
        rw [doB_no hdid]
        simp only [Option.bind_some, bne_self_eq_false, Bool.false_eq_true, if_false]
        rw [ltPage_k _ _ _ _ _ _ (by simp) _ (by simp)]
        simp only [Option.bind_some, and_self, decide_true, if_true]
        exact done _ _ _ _ _ _ _ _ _ _ _ _ _ _ 0 _ _ (by simp)
      | true =>
        have hn := didB_lsn hdid
        have hok : pageOkB n (ownOf b a3 a5) (valsOf v a3 a5) = true := by
          unfold didB at hdid
          simp only [Bool.and_eq_true] at hdid
          exact hdid.2
        have hmay : mayB a b v a0 a1 a2 a3 a4 a5 a6 a7 n = true := by
          unfold didB at hdid
          simp only [Bool.and_eq_true] at hdid
          exact hdid.1
        have hmay2 := hmay
        unfold mayB at hmay2
        simp only [Bool.and_eq_true] at hmay2
        obtain ⟨⟨⟨hpg, hrec⟩, hch⟩, hin⟩ := hmay2
        have hv3 : v.length = 3 := pageOkB_len hpg
        have hs := recOkB_slot hrec
        have hdoy := doB_yes hdid
        rw [hdoy] at hd ⊢
        simp only at hd
        simp only [Option.bind_some, bne_self_eq_false, Bool.false_eq_true, if_false]
        rw [ltPage_k _ _ _ _ _ _ (by omega) _ (by omega)]
        simp only [Option.bind_some, and_self, decide_true, if_true]
        by_cases hs0 : a3 < 0
        · rw [if_pos hs0]
          exact done _ _ _ _ _ _ _ _ _ _ _ _ _ _ 0 _ _ hd
        · rw [if_neg hs0, T.wrap_small (by omega) (by omega)]
          by_cases hn1 : n + 1 > 150
          · rw [decide_eq_true hn1]
            exact done _ _ _ _ _ _ _ _ _ _ _ _ _ _ 0 _ _ hd
          · rw [decide_eq_false hn1]
            have ho : ownOf b a3 a5 = b := by unfold ownOf; rw [if_pos (by omega)]
            have hv : valsOf v a3 a5 = v.set a3.toNat a5 := by unfold valsOf; rw [if_pos (by omega)]
            rw [ho, hv] at hok ⊢
            have hp := recOkB_page hrec (by omega) hch
            rw [show (21 : Nat) = 20 + 1 from rfl, laws_FnRecTwo.j1]
            simp only [Bool.false_eq_true, if_false]
            have hm : 0 ≤ ((l1.length : Int) % 2) ∧ ((l1.length : Int) % 2) < 2 := by omega
            rw [wrapS (by omega) (by omega) hm.1 hm.2, T.wrap_small (x := n + 1) (by omega) (by omega)]
            generalize hm2 : (l1.length : Int) % 2 = m at hm
            obtain ⟨i, rfl⟩ : ∃ i : Nat, a3 = i := ⟨a3.toNat, by omega⟩
            obtain ⟨j, hj⟩ : ∃ j : Nat, ((i : Int) + 1 + m) % 3 = j := ⟨(((i : Int) + 1 + m) % 3).toNat, by omega⟩
            have hij : i ≠ j ∧ j < 3 := by omega
            rw [hj]
            rw [Int.toNat_natCast] at hok ⊢
            have hq := recOkB_four (s := (j : Int)) hp (by omega) (by omega)
            have w1 : ownOf b (j : Int) 4 = b := by unfold ownOf; rw [if_pos (by omega)]
            have w2 : ∀ u : List Int, valsOf u (j : Int) 4 = u.set j 4 := fun u => by unfold valsOf; rw [if_pos (by omega), Int.toNat_natCast]
            -- the two of q are both done, or none is
            have d1 : didB n b (v.set i a5) 1 2 a2 j 0 4 0 0 (n + 1) = (b != 0) := by
              unfold didB mayB
              rw [hok, hq, w1, w2, okFour (by simp [hv3]) hij.2 hok (by omega) (by omega)]
              have : inB (n + 1) (n + 1) 150 = true := by simp [inB]; omega
              rw [this]
              rfl
            have d2 : didB a b v 1 2 a2 j 0 4 0 0 n = (b != 0) := by
              unfold didB mayB
              rw [hpg, hq, hin, w1, w2, okFour hv3 hij.2 hpg (by omega) (by omega)]
              rfl
            rw [implDo_k _ _ _ _ _ _ _ _ _ _ _ _ (by simp; omega) _ (by simp; omega), implDo_k _ _ _ _ _ _ _ _ _ _ _ _ (by omega) _ (by omega)]
            simp only [Option.bind_some]
            have hl2 := doB_len a b v 1 2 a2 j 0 4 0 0 n
            rw [implDo_k _ _ _ _ _ _ _ _ _ _ _ _ (by omega) _ (by omega)]
            simp only [Option.bind_some]
            by_cases hb : b = 0
            · have hbb : (b != 0) = false := by simp [hb]
              rw [hbb] at d1 d2
              rw [doB_no d1, doB_no d2]
              simp
            · have hbb : (b != 0) = true := by simp [hb]
              rw [hbb] at d1 d2
              have e2 := doB_yes d2
              rw [w1, w2] at e2
              rw [doB_yes d1, e2, w1, w2]
              simp only [if_true]
              cases h3d : (doB n b (v.set j 4) a0 a1 a2 i a4 a5 a6 a7 (n + 1)).2.2.2 with
              | false => simp
              | true =>
                have d3 : didB n b (v.set j 4) a0 a1 a2 i a4 a5 a6 a7 (n + 1) = true := by
                  unfold doB at h3d
                  split at h3d
                  · assumption
                  · simp at h3d
                have w3 : ownOf b (i : Int) a5 = b := ho
                have w4 : valsOf (v.set j 4) (i : Int) a5 = (v.set j 4).set i a5 := by unfold valsOf; rw [if_pos (by omega), Int.toNat_natCast]
                rw [doB_yes d3, w3, w4]
                simp only [if_true]
                rw [ltPage_k _ _ _ _ _ _ (by simp; omega) _ (by simp; omega), List.set_comm _ _ hij.1]
                simp
  unfold laws_FnRecTwo.f
  split
  · exact key _
  · exact key _
/-- The walk of the law: its printed contract, at the plain law. -/
theorem FnRecTwo_walk (A : Option Addr) (c : Nat) (l : List Int) (A1 : Option Addr) (c1 : Nat) (l1 : List Int) (w : World) (hc : l.length ≤ c) (hC : Kd.C (Kd.int .u8) w A l.length l) (hby : Bytes l) (hc1 : l1.length ≤ c1) (hC1 : Kd.C (Kd.int .u8) w A1 l1.length l1) (hby1 : Bytes l1) :
    Calls Try.prog 12 #[.slice A l.length c, .slice A1 l1.length c1] w fun e w' => e = .returned (.bool true) ∧ Below w.heap.size w w' := by
  obtain ⟨k, h⟩ := PureFnRecTwo l l1 hby hby1
  exact laws_FnRecTwo.calls k A c l A1 c1 l1 true w hC hc hC1 hc1 h ⟨rfl⟩
end Go.Proofs.Ytcefiblpnegepaa.T
