import Derived.Test.YtcefiblpnegepaaQByq
import Derived.Test.YtcefiblpnegepaaQPrK
import Derived.Test.YtcefiblpnegepaaQPrM
import Derived.Test.YtcefiblpnegepaaQWEngA
import Derived.Test.YtcefiblpnegepaaQPrLogA
namespace Go.Proofs.Ytcefiblpnegepaa.Pr
open Go.RowKit Go.Proofs.YtcefiblpnegepaaW.PrintWords Go.Proofs.YtcefiblpnegepaaW.PrintLast Go.Proofs.YtcefiblpnegepaaW.PrintMore
attribute [local go_sem] max2_int min2_int max_two min_two max_three min_three max_four min_four
set_option linter.unusedVariables false
set_option linter.unusedSimpArgs false
def spec_l11Pages.l0 : Nat → List (S25) → Int → Option ((List (S25)))
  | 0, _, _ => none
  | k + 1, x1, x2 => if x2 < 5 then ((spec_PageNew.f).bind fun bt601 => (if x1.length < 3518437208883 then (spec_l11Pages.l0 k (x1 ++ [(⟨bt601.1, bt601.2.1, bt601.2.2⟩ : S25)]) (wrap64 (x2 + 1))) else (none))) else (some x1)
def spec_l11Pages.f (k : Nat)  : Option ((List (S25))) := spec_l11Pages.l0 k (([] : List (S25))) 0
set_option maxHeartbeats 8000000 in
set_option maxRecDepth 100000 in
theorem spec_l11Pages.calls (k : Nat)  (r : List (S25)) (w : World) (h : spec_l11Pages.f k  = some r) :
    Calls Try.prog 95 #[] w fun e w' => ∃ v0_ : Value, e = .returned (v0_) ∧ Kd.S k25 25 w' w.heap.size (fun _ => True) v0_ r ∧ Below w.heap.size w w' := by
  have HB := Aside0.mk (Below.refl w.heap.size w); have H : (spec_l11Pages.l0 k (([] : List (S25))) 0) = some r := h; clear h
  obtain ⟨y598, hy598⟩ : ∃ y_ : List (S25), y_ = (([] : List (S25))) := ⟨_, rfl⟩
  replace H : (spec_l11Pages.l0 k y598 0) = some r := by first | (rw [hy598]; with_reducible exact H) | (have H2_ := (Option.bind_some _ _).symm.trans H; rw [hy598]; with_reducible exact H2_) | (have H2_ := (Option.bind_some _ _).symm.trans H; with_reducible exact H2_) | with_reducible exact H | (rw [hy598]; exact H) | exact H
  have Ny598 := Aside0.mk hy598; clear hy598; have H' := Aside0.mk H; clear H
  go_enter Try.func95, Try.ntmps95
  go_wp2_with (first | ((with_reducible refine gate_dst (N := 3) rfl ?_); refine Kd.S_lit k25 _ 25 ?hg (N := 3) ?hd (xs := ([] : List (S25))) (inner := []) (ok := fun _ => True) (okp := fun _ => True) ?hr ?hp (fun _ hk => hk) trivial (Below.refl _ _) (Nat.le_refl _) (by simp) ?_; (case hd => rfl); (case hg => rfl); (case hr => exact zb20); (case hp => exact (Reps.none _ _)); intro v599 w1 ho2 hb hg_ hnew_; clear hg_ hnew_; (first | rw [← Ny598.out] at ho2 | (simp only [Int.reduceToNat] at ho2; rw [← Ny598.out] at ho2)); have n0_ := Aside0.mk (Kd.S_lower ho2 (below_size zb9)); have n1_ := Aside0.mk (below_step zb9 hb); clear HB; have HO600 := n0_; have HB := n1_; clear n0_ n1_; clear hb ho2))
  go_loopg [1, 2] k (fun kq v1 v2 w' => ∃ (x1_1 : List (S25)) (x2_1 : Int), v2 = .int .i64 x2_1 ∧ Aside0 (spec_l11Pages.l0 kq x1_1 x2_1 = some r) ∧ Aside0 (kq ≤ k) ∧ Aside0 (Kd.S k25 25 w' w.heap.size (fun _ => True) v1 x1_1) ∧ Aside0 (Below w.heap.size w w'))
  case atStart => exact ⟨(y598), (0), zb15, H', ⟨Nat.le_refl _⟩, ⟨by (with_reducible repeat (first | apply Kd.S_alloc | apply Kd.S_drewN | apply Kd.S_drew)); exact HO600.out⟩, ⟨zb9⟩⟩
  case round =>
    clear H'
    try clear p2
    obtain ⟨x1_1, x2_1, rfl, HA, HK1, HO_1, HB⟩ := hrel
    cases gk with
    | zero => exact absurd HA.out (by simp [spec_l11Pages.l0])
    | succ k1 =>
      have H := HA.out; clear HA; simp only [spec_l11Pages.l0] at H
      by_cases c3 : x2_1 < 5
      · rw [if_pos c3] at H
        have c3b0 : decide (x2_1 < 5) = true := decide_eq_true c3; clear c3; replace H := Option.bind_eq_some_iff.mp H; obtain ⟨⟨t601, t602, t603⟩, A40, H⟩ := H; replace H : (if x1_1.length < 3518437208883 then (spec_l11Pages.l0 k1 (x1_1 ++ [(⟨t601, t602, t603⟩ : S25)]) (wrap64 (x2_1 + 1))) else (none)) = some r := H; have A4 := Aside0.mk A40; clear A40
        by_cases c5 : x1_1.length < 3518437208883
        · rw [if_pos c5] at H
          have LMc5 := Aside0.mk c5; clear c5
          obtain ⟨y606, hy606⟩ : ∃ y_ : List (S25), y_ = (x1_1 ++ [(⟨t601, t602, t603⟩ : S25)]) := ⟨_, rfl⟩
          replace H : (spec_l11Pages.l0 k1 y606 (wrap64 (x2_1 + 1))) = some r := by first | (rw [hy606]; with_reducible exact H) | (have H2_ := (Option.bind_some _ _).symm.trans H; rw [hy606]; with_reducible exact H2_) | (have H2_ := (Option.bind_some _ _).symm.trans H; with_reducible exact H2_) | with_reducible exact H | (rw [hy606]; exact H) | exact H
          have Ny606 := Aside0.mk hy606; clear hy606; have H' := Aside0.mk H; clear H
          go_wp2_with (first | ((with_reducible refine gate_callee (f := 111) rfl ?_); refine goesL_ (some 9) rfl rfl Try.func111 zb14 rfl #[] rfl zb3 ?_; (with_reducible refine (spec_PageNew.calls  t601 t602 t603 _ A4.out).mono ?_); rintro e w6 ⟨v604, rfl, ho0, hb⟩; refine ⟨_, rfl, ?_⟩; have n0_ := Aside0.mk (Kd.S_elder' (by (with_reducible repeat (first | apply Kd.S_alloc | apply Kd.S_drewN | apply Kd.S_drew)); exact HO_1.out) (Kd.R_base ho0) hb); have n1_ := Aside0.mk (Kd.R_lower ho0 (below_size zb9)); have n2_ := Aside0.mk (below_step zb9 hb); clear HO_1; clear HB; have HO_1 := n0_; have HO605 := n1_; have HB := n2_; clear n0_ n1_ n2_; (try clear hb); (try clear hb2); (try clear hk); (try clear hi); (try clear ho0); obtain ⟨Ao8, co8, eo8⟩ := Kd.R_slice HO605.out; subst eo8) | ((with_reducible refine gate_builtin (b := .append) (xs := #[.tmp 8, .tmp 10]) rfl ?_); at_builtin; refine Kd.S_append k25 (w0 := w) w.heap.size rfl (.tmp 8) (.tmp 10) 50 25 (.agg #[(.int .i64 0), (.int .i64 0), (.slice none 0 0)]) 40 rfl Try.underlying50 info25 rfl (by decide) (by omega) u1 x1_1 (⟨t601, t602, t603⟩ : S25) [.int .i64 t601, .int .i64 t602, .slice Ao8 t603.length co8] (fun _ => True) (fun k_ => some k_ = (.slice Ao8 t603.length co8 : Value).ownBlock) rfl rfl ?aP (fun k_ hk_ => ((Kd.R_mono (ok' := fun k_ => ((fun _ => True)) k_ ∧ some k_ ≠ (u1 : Value).ownBlock) (Kd.R_apart' (HO605.out) (Kd.S_typed HO_1.out) (by decide)) (fun k_ hk => ⟨trivial, hk.2⟩))).1 k_ hk_.symm) ?aF ?aO ?aB ?aS ?aL ?_; (case aP => exact k25_mkM _ _ _ (⟨t601, t602, t603⟩ : S25) (Kd.R_mono (Kd.R_tight rfl (Kd.R_mono (ok' := fun k_ => ((fun _ => True)) k_ ∧ some k_ ≠ (u1 : Value).ownBlock) (Kd.R_apart' (HO605.out) (Kd.S_typed HO_1.out) (by decide)) (fun k_ hk => ⟨trivial, hk.2⟩))) (fun _ h_ => h_))); (case aB => exact zb9); (case aF => exact (fun _ _ => trivial)); (case aO => exact (by (with_reducible repeat (first | apply Kd.S_alloc | apply Kd.S_drewN | apply Kd.S_drew)); exact Kd.S_mono HO_1.out (fun k_ hk => ⟨trivial, fun e_ => hk.2 e_⟩))); (case aS => exact (below_size zb9)); (case aL => have := LMc5.out; omega); intro v607 w7 ho hb hg hat; rw [← Ny606.out] at ho; have n0_ := Aside0.mk (hb); have n1_ := Aside0.mk (ho); clear HB; clear HO_1; clear HO605; have HB := n0_; have HO608 := n1_; clear n0_ n1_; clear ho hb hg hat))
          go_roundg k1
          case measure => have := HK1.out; omega
          case rel => exact ⟨(y606), (wrap64 (x2_1 + 1)), zb15, H', ⟨zb61⟩, ⟨by (with_reducible repeat (first | apply Kd.S_alloc | apply Kd.S_drewN | apply Kd.S_drew)); exact HO608.out⟩, ⟨zb9⟩⟩
        · rw [if_neg c5] at H
          exact absurd H (by simp)
      · rw [if_neg c3] at H
        have c3b0 : decide (x2_1 < 5) = false := decide_eq_false c3; clear c3; obtain rfl := Option.some.inj H
        go_wp2
        go_ret
        exact ⟨_, zb11, by (with_reducible repeat (first | apply Kd.S_alloc | apply Kd.S_drewN | apply Kd.S_drew)); exact HO_1.out, zb9⟩
def spec_EngineNew.f (k : Nat)  : Option ((List (S25)) × (List (S25)) × (List (S41)) × Int × Bool) := (spec_l11Pages.f k).bind fun t610 => ((spec_l11Pages.f k).bind fun t613 => (some (t610, t613, (([] : List (S41))), 0, false)))
end Go.Proofs.Ytcefiblpnegepaa.Pr
