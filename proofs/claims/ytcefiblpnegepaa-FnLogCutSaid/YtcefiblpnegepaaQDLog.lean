import Derived.RangeFuncNested
import Derived.RangeFuncBound
import Derived.RangeFuncCalls
import Derived.RangeFuncLeaves
import Derived.Shelf.Abstract
import Derived.Shelf.RegionOpen
import Derived.WalkKit
import Derived.OwnWalkIn
import Derived.TacticsInMore
import Derived.LoopNIn
import Derived.LoopIn
import Derived.Test.YtcefiblpnegepaaQByq
import Derived.Test.YtcefiblpnegepaaQPrK
import Derived.Test.YtcefiblpnegepaaQWLogB
import Derived.Test.YtcefiblpnegepaaQSh
import Derived.Test.YtcefiblpnegepaaQL71L
import Derived.Test.YtcefiblpnegepaaQLogOk
import Derived.Test.YtcefiblpnegepaaQLogP
namespace Go.Proofs.Ytcefiblpnegepaa.Pr
open Go.RowKit Go.Proofs.YtcefiblpnegepaaW.PrintWords Go.Proofs.YtcefiblpnegepaaW.PrintLast Go.Proofs.YtcefiblpnegepaaW.PrintMore
attribute [local go_sem] max2_int min2_int max_two min_two max_three min_three max_four min_four
set_option linter.unusedVariables false
set_option linter.unusedSimpArgs false
theorem LS.q {w : World} {base : Nat} {v : Value} {l : List S41} (h : LS w base v l) : Kd.Q k41 41 w base (fun _ => True) v l := by
  rcases h with h | ⟨g', c, ys, h, h1, rfl, rfl⟩
  · exact Kd.Q_of_R h
  · have hD := Kd.Q_drop (k := 1) (Kd.Q_of_R h) (by omega)
    have hc := (Kd.R_reads' h).2.1; rw [if_neg (by omega)] at hD; simp only [Option.map_some, Addr.add_lit] at hD; rw [show 0 + 1 * k41.sz = 8 from rfl] at hD; exact hD
def spec_DrawLogOk.f (k : Nat) (l0 : List Int) : Option (List S41) := (spec_l6Open.f l0).bind fun o => (spec_l71Log.f k o.1 o.2).bind fun y => (spec_l6Rd_pick.f k o.1 y.2 5).bind fun t => if t.1 = 0 then (if (y.1.length : Int) < 1000 then ((spec_l71Rec.f k o.1 t.2).bind fun r => some (y.1 ++ [⟨r.1, r.2.1, r.2.2.1, r.2.2.2.1, r.2.2.2.2.1, r.2.2.2.2.2.1, r.2.2.2.2.2.2.1, r.2.2.2.2.2.2.2.1⟩])) else none) else some y.1
set_option maxHeartbeats 8000000 in
set_option maxRecDepth 100000 in
theorem spec_DrawLogOk.calls (k : Nat) (A0 : Option Addr) (c0 : Nat) (l0 : List Int) (r : List S41) (w : World) (hr0 : Kd.C (Kd.int .u8) w A0 l0.length l0) (hc0 : l0.length ≤ c0) (h : spec_DrawLogOk.f k l0 = some r) :
    Calls Try.prog 67 #[.slice A0 l0.length c0] w fun e w' => ∃ v0_ : Value, e = .returned (v0_) ∧ Kd.Q k41 41 w' w.heap.size (fun _ => True) v0_ r ∧ Below w.heap.size w w' := by
  have HR := Aside0.mk hr0; have HC := Aside0.mk hc0
  unfold spec_DrawLogOk.f at h
  replace h := Option.bind_eq_some_iff.mp h; obtain ⟨⟨s0, s1⟩, ho, h⟩ := h; replace h := Option.bind_eq_some_iff.mp h; obtain ⟨⟨y, p1⟩, hy, h⟩ := h; replace h := Option.bind_eq_some_iff.mp h; obtain ⟨⟨t, p2⟩, ht, h⟩ := h; have A0_ := Aside0.mk ho; have A1_ := Aside0.mk hy; have A2_ := Aside0.mk ht; have H := Aside0.mk h; clear hr0 hc0 ho hy ht h
  go_enter Try.func67, Try.ntmps67
  go_wp2_with fail
  refine (spec_l6Open.calls A0 c0 l0 s0 s1 w w (Below.refl _ _) HR.out HC.out A0_.out).mono ?_; rintro e w1 ⟨g, rfl, hI1, hB1, _⟩; have I1 := Aside0.mk hI1; have LB1 := Aside0.mk hB1; have HGW := Aside0.mk hI1.lt; clear hI1 hB1
  go_wp2_with fail
  refine (spec_l71Log.to k g s0 s1 y p1 w w1 I1.out LB1.out A1_.out).mono ?_; rintro e w2 ⟨v, rfl, hL, hI2, hB2, hK2⟩; have RL2 := Aside0.mk hL; have I2 := Aside0.mk hI2; have LB2 := Aside0.mk hB2; clear hL hI2 hB2 hK2 I1 LB1
  go_wp2_with fail
  refine (spec_l6Rd_pick.calls k g s0 p1 5 t p2 w _ I2.out LB2.out A2_.out).mono ?_; rintro e w3 ⟨rfl, hI, hB, hK⟩; have I3 := Aside0.mk hI; have LB3 := Aside0.mk hB; have RL3 := Aside0.mk (RL2.out.keep hK HGW.out); clear hI hB hK I2 LB2 RL2; have h := H.out; clear H
  by_cases q0 : t = 0
  · rw [if_pos q0] at h
    subst q0
    by_cases qn : (y.length : Int) < 1000
    rotate_left
    · rw [if_neg qn] at h
      exact absurd h (by simp)
    rw [if_pos qn] at h; have QN := Aside0.mk qn; replace h := Option.bind_eq_some_iff.mp h; obtain ⟨⟨b1, b2, b3, b4, b5, b6, b7, b8, b9⟩, hb, h⟩ := h; have A3_ := Aside0.mk hb; simp only [Option.some.injEq] at h; subst h; clear qn hb
    go_wp2_with fail
    refine (spec_l71Rec.calls k g s0 p2 b1 b2 b3 b4 b5 b6 b7 b8 b9 w _ I3.out LB3.out A3_.out).mono ?_; rintro e w4 ⟨rfl, hI, hB, hK⟩; have I4 := Aside0.mk hI; have LB4 := Aside0.mk hB; have hL := RL3.out.keep hK HGW.out; clear hI hB hK I3 LB3 RL3
    rcases hL with hL | ⟨g2, c2, ys, hL, hys, rfl, rfl⟩
    · have RL4 := Aside0.mk hL
      clear hL
      go_wp2_with (first | ((with_reducible refine gate_dst (N := 15) rfl ?_); refine Kd.R_lit k41 (w0 := w4) _ 41 ?hg (N := 15) ?hd (xs := ([(⟨b1, b2, b3, b4, b5, b6, b7, b8⟩ : S41)] : List S41)) (inner := [.int .i64 b1, .int .i64 b2, .int .i64 b3, .int .i64 b4, .int .i64 b5, .int .i64 b6, .int .i64 b7, .int .i64 b8]) (ok := fun _ => True) (okp := fun _ => True) ?hr ?hp (fun _ hk => hk) trivial (Below.refl (w4).heap.size w4) (Nat.le_refl _) (by simp) ?_; (case hd => rfl); (case hg => rfl); (case hr => exact zb20); (case hp => exact zb94); intro v21 w5 ho hb hg hat; obtain ⟨AN, cN, eN, _, hCN⟩ := Kd.R_reads ho; subst eN; obtain ⟨an, ean, _⟩ := hCN.2.2 (by simp); subst ean; have NC := Aside0.mk hCN; have I5 := Aside0.mk (I4.out.below hb); have LB5 := Aside0.mk (below_step LB4.out hb); have RL5 := Aside0.mk (Kd.R_below RL4.out hb); clear ho hb hg hat hCN I4 LB4 RL4) | ((with_reducible refine gate_builtin (b := .append) (xs := #[.tmp 12, .tmp 15]) rfl ?_); at_builtin; refine Kd.R_append_rows k41 (w0 := w) w.heap.size rfl (.tmp 12) (.tmp 15) 34 41 (.agg #[(.int .i64 0), (.int .i64 0), (.int .i64 0), (.int .i64 0), (.int .i64 0), (.int .i64 0), (.int .i64 0), (.int .i64 0)]) 64 rfl Try.underlying34 info41 rfl (by decide) (by omega) v y [⟨b1, b2, b3, b4, b5, b6, b7, b8⟩] _ _ _ (fun _ => True) (fun _ => False) rfl rfl ?aO ?aR (fun _ _ h => h) (fun _ h => h.elim) ?aF ?aB ?aS ?aL ?_; (case aR => exact NC.out); (case aB => exact LB5.out); (case aF => exact (fun _ _ => trivial)); (case aO => exact Kd.R_lower RL5.out (Nat.le_of_lt (Nat.lt_of_le_of_lt I5.out.ge HGW.out))); (case aS => exact LB5.out.size); (case aL => have := QN.out; simp only [List.length_cons, List.length_nil]; omega); intro v22 w6 ho hb hg hat; have Q6 := Aside0.mk (Kd.Q_of_R ho); have LB6 := Aside0.mk hb; clear ho hb hg hat))
      refine bodyPost_ret (v := v22) (by simp [results, Try.results67, go_sem, *]) rfl ⟨_, rfl, Q6.out, LB6.out⟩
    · have RL4 := Aside0.mk hL
      have hy2 := Aside0.mk hys; clear hL hys
      go_wp2_with (first | ((with_reducible refine gate_dst (N := 15) rfl ?_); refine Kd.R_lit k41 (w0 := w4) _ 41 ?hg (N := 15) ?hd (xs := ([(⟨b1, b2, b3, b4, b5, b6, b7, b8⟩ : S41)] : List S41)) (inner := [.int .i64 b1, .int .i64 b2, .int .i64 b3, .int .i64 b4, .int .i64 b5, .int .i64 b6, .int .i64 b7, .int .i64 b8]) (ok := fun _ => True) (okp := fun _ => True) ?hr ?hp (fun _ hk => hk) trivial (Below.refl (w4).heap.size w4) (Nat.le_refl _) (by simp) ?_; (case hd => rfl); (case hg => rfl); (case hr => exact zb20); (case hp => exact zb94); intro v21 w5 ho hb hg hat; obtain ⟨AN, cN, eN, _, hCN⟩ := Kd.R_reads ho; subst eN; obtain ⟨an, ean, _⟩ := hCN.2.2 (by simp); subst ean; have NC := Aside0.mk hCN; have I5 := Aside0.mk (I4.out.below hb); have LB5 := Aside0.mk (below_step LB4.out hb); have RL5 := Aside0.mk (Kd.R_below RL4.out hb); clear ho hb hg hat hCN I4 LB4 RL4) | ((with_reducible refine gate_builtin (b := .append) (xs := #[.tmp 12, .tmp 15]) rfl ?_); at_builtin; refine append_tail k41 (fun _ _ _ _ _ _ h => h) (w0 := w) w.heap.size rfl (.tmp 12) (.tmp 15) 34 41 (.agg #[(.int .i64 0), (.int .i64 0), (.int .i64 0), (.int .i64 0), (.int .i64 0), (.int .i64 0), (.int .i64 0), (.int .i64 0)]) 64 rfl Try.underlying34 info41 rfl (by decide) (by omega) g2 c2 1 ys [⟨b1, b2, b3, b4, b5, b6, b7, b8⟩] an 1 _ (fun _ => True) rfl rfl ?aO ?aM ?aR ?aB ?aS ?aL ?_; (case aR => exact NC.out); (case aB => exact LB5.out); (case aM => exact hy2.out); (case aO => exact Kd.R_lower RL5.out (Nat.le_of_lt (Nat.lt_of_le_of_lt I5.out.ge HGW.out))); (case aS => exact LB5.out.size); (case aL => have h1_ := QN.out; have h2_ := hy2.out; simp only [List.length_drop] at h1_; omega); intro v22 w6 ho hb hg; have Q6 := Aside0.mk ho; have LB6 := Aside0.mk hb; clear ho hb hg))
      refine bodyPost_ret (v := v22) (by simp [results, Try.results67, go_sem, *]) rfl ⟨_, rfl, Q6.out, LB6.out⟩
  rw [if_neg q0] at h; have q0b : (t == 0) = false := beq_eq_false_iff_ne.mpr q0; clear q0; simp only [Option.some.injEq] at h; subst h
  go_wp2
  refine bodyPost_ret (v := v) (by simp [results, Try.results67, go_sem, *]) rfl ⟨_, rfl, (RL3.out.lower (Nat.le_of_lt (Nat.lt_of_le_of_lt I3.out.ge HGW.out))).q, LB3.out⟩
end Go.Proofs.Ytcefiblpnegepaa.Pr
