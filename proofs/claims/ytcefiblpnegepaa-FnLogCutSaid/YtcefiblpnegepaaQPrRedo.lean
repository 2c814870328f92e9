import Derived.Test.YtcefiblpnegepaaQByq
import Derived.Test.YtcefiblpnegepaaQPrK
import Derived.Test.YtcefiblpnegepaaQWEngA
import Derived.Test.YtcefiblpnegepaaQPrLogA
import Derived.Test.YtcefiblpnegepaaQL2
namespace Go.Proofs.Ytcefiblpnegepaa.Pr
open Go.RowKit Go.Proofs.YtcefiblpnegepaaW.PrintWords Go.Proofs.YtcefiblpnegepaaW.PrintLast Go.Proofs.YtcefiblpnegepaaW.PrintMore
attribute [local go_sem] max2_int min2_int max_two min_two max_three min_three max_four min_four
set_option linter.unusedVariables false
set_option linter.unusedSimpArgs false
def spec_l11CopyPages.l0 : Nat → List (S25) → List (S25) → Int → Option ((List (S25)))
  | 0, _, _, _ => none
  | k + 1, x0, x3, x4 => if x4 < (x0.length : Int) then (if 0 ≤ x4 then ((spec_l1Copy.f ((rd_T25 x0 x4).f0) ((rd_T25 x0 x4).f1) ((rd_T25 x0 x4).f2)).bind fun bt1327 => (if x3.length < 3518437208883 then (spec_l11CopyPages.l0 k x0 (x3 ++ [(⟨bt1327.1, bt1327.2.1, bt1327.2.2⟩ : S25)]) (wrap64 (x4 + 1))) else (none))) else (none)) else (some x3)
def spec_l11CopyPages.f (k : Nat) (l0 : List (S25)) : Option ((List (S25))) := spec_l11CopyPages.l0 k l0 (([] : List (S25))) 0
set_option maxHeartbeats 8000000 in
set_option maxRecDepth 100000 in
theorem spec_l11CopyPages.calls (k : Nat) (A0 : Option Addr) (c0 : Nat) (l0 : List (S25)) (r : List (S25)) (w : World) (hr0 : Kd.C k25 w A0 l0.length l0) (hc0 : l0.length ≤ c0) (h : spec_l11CopyPages.f k l0 = some r) :
    Calls Try.prog 140 #[.slice A0 l0.length c0] w fun e w' => ∃ v0_ : Value, e = .returned (v0_) ∧ Kd.S k25 25 w' w.heap.size (fun _ => True) v0_ r ∧ Below w.heap.size w w' := by
  have hu25 := Try.underlying25; have HR0 := Aside0.mk hr0; have HC0 := Aside0.mk hc0; clear hr0 hc0; have HB := Aside0.mk (Below.refl w.heap.size w); have H : (spec_l11CopyPages.l0 k l0 (([] : List (S25))) 0) = some r := h; clear h
  obtain ⟨y1323, hy1323⟩ : ∃ y_ : List (S25), y_ = (([] : List (S25))) := ⟨_, rfl⟩
  replace H : (spec_l11CopyPages.l0 k l0 y1323 0) = some r := by first | (rw [hy1323]; with_reducible exact H) | (have H2_ := (Option.bind_some _ _).symm.trans H; rw [hy1323]; with_reducible exact H2_) | (have H2_ := (Option.bind_some _ _).symm.trans H; with_reducible exact H2_) | with_reducible exact H | (rw [hy1323]; exact H) | exact H
  have Ny1323 := Aside0.mk hy1323; clear hy1323; have H' := Aside0.mk H; clear H
  go_enter Try.func140, Try.ntmps140
  go_wp2_with (first | ((with_reducible refine gate_dst (N := 5) rfl ?_); refine Kd.S_lit k25 _ 25 ?hg (N := 5) ?hd (xs := ([] : List (S25))) (inner := []) (ok := fun _ => True) (okp := fun _ => True) ?hr ?hp (fun _ hk => hk) trivial (Below.refl _ _) (Nat.le_refl _) (by simp) ?_; (case hd => rfl); (case hg => rfl); (case hr => exact zb20); (case hp => exact (Reps.none _ _)); intro v1324 w2 ho3 hb hg_ hnew_; clear hg_ hnew_; (first | rw [← Ny1323.out] at ho3 | (simp only [Int.reduceToNat] at ho3; rw [← Ny1323.out] at ho3)); have n0_ := Aside0.mk (Kd.S_lower ho3 (below_size zb9)); have n1_ := Aside0.mk (below_step zb9 hb); clear HB; have HO1325 := n0_; have HB := n1_; clear n0_ n1_; clear hb ho3))
  go_loopg [3, 4] k (fun kq v3 v4 w' => ∃ (x3_1 : List (S25)) (x4_1 : Int), v4 = .int .i64 x4_1 ∧ Aside0 (spec_l11CopyPages.l0 kq l0 x3_1 x4_1 = some r) ∧ Aside0 (kq ≤ k) ∧ Aside0 (Kd.S k25 25 w' w.heap.size (fun _ => True) v3 x3_1) ∧ Aside0 (Below w.heap.size w w'))
  case atStart => exact ⟨(y1323), (0), zb15, H', ⟨Nat.le_refl _⟩, ⟨by (with_reducible repeat (first | apply Kd.S_alloc | apply Kd.S_drewN | apply Kd.S_drew)); exact HO1325.out⟩, ⟨zb9⟩⟩
  case round =>
    clear H'
    try clear c1
    try clear p2
    obtain ⟨x3_1, x4_1, rfl, HA, HK1, HO_3, HB⟩ := hrel
    cases gk with
    | zero => exact absurd HA.out (by simp [spec_l11CopyPages.l0])
    | succ k1 =>
      have H := HA.out; clear HA; simp only [spec_l11CopyPages.l0] at H
      by_cases c4 : x4_1 < (l0.length : Int)
      · rw [if_pos c4] at H
        have c4b0 : decide (x4_1 < (l0.length : Int)) = true := decide_eq_true c4; clear c4
        by_cases c5 : 0 ≤ x4_1
        · rw [if_pos c5] at H
          have c5b0 : decide (0 ≤ x4_1) = true := decide_eq_true c5; clear c5; replace H := Option.bind_eq_some_iff.mp H; obtain ⟨⟨t1327, t1328, t1329⟩, A60, H⟩ := H; replace H : (if x3_1.length < 3518437208883 then (spec_l11CopyPages.l0 k1 l0 (x3_1 ++ [(⟨t1327, t1328, t1329⟩ : S25)]) (wrap64 (x4_1 + 1))) else (none)) = some r := H; have A6 := Aside0.mk A60; clear A60
          by_cases c7 : x3_1.length < 3518437208883
          · rw [if_pos c7] at H
            have LMc7 := Aside0.mk c7; clear c7
            obtain ⟨y1332, hy1332⟩ : ∃ y_ : List (S25), y_ = (x3_1 ++ [(⟨t1327, t1328, t1329⟩ : S25)]) := ⟨_, rfl⟩
            replace H : (spec_l11CopyPages.l0 k1 l0 y1332 (wrap64 (x4_1 + 1))) = some r := by first | (rw [hy1332]; with_reducible exact H) | (have H2_ := (Option.bind_some _ _).symm.trans H; rw [hy1332]; with_reducible exact H2_) | (have H2_ := (Option.bind_some _ _).symm.trans H; with_reducible exact H2_) | with_reducible exact H | (rw [hy1332]; exact H) | exact H
            have Ny1332 := Aside0.mk hy1332; clear hy1332; have H' := Aside0.mk H; clear H; have p1326 : 0 ≤ (x4_1 : Int) := of_decide_eq_true zb10; have q1326 : x4_1 < (l0.length : Int) := of_decide_eq_true zb10; obtain ⟨ad1326, A1326_2, c1326_2, e1326, hx1326_0, hx1326_1, hx1326_2, hl1326_2, hi1326_2⟩ := at_T25 HR0.out x4_1 p1326 q1326
            cases e1326
            replace hx1326_0 := (HB.out.cell (World.block_lt_of_cell? w _ hx1326_0)).trans hx1326_0; replace hx1326_1 := (HB.out.cell (World.block_lt_of_cell? w _ hx1326_1)).trans hx1326_1; replace hx1326_2 := (HB.out.cell (World.block_lt_of_cell? w _ hx1326_2)).trans hx1326_2; have HR1326_2 := Aside0.mk hi1326_2; have HC1326_2 := Aside0.mk hl1326_2; clear hi1326_2 hl1326_2; replace p1326 := eq_true p1326; replace q1326 := eq_true q1326
            go_wp2_with (first | ((with_reducible refine gate_callee (f := 118) rfl ?_); refine goesL_ (some 17) rfl rfl Try.func118 zb14 rfl #[.agg #[.int .i64 ((rd_T25 l0 x4_1).f0), .int .i64 ((rd_T25 l0 x4_1).f1), .slice A1326_2 ((rd_T25 l0 x4_1).f2).length c1326_2]] rfl zb3 ?_; (with_reducible refine (spec_l1Copy.calls ((rd_T25 l0 x4_1).f0) ((rd_T25 l0 x4_1).f1) _ _ ((rd_T25 l0 x4_1).f2) t1327 t1328 t1329 _ ?side1 ?side2 A6.out).mono ?_); (case side1 => repeat (first | exact (Kd.C_below HR1326_2.out HB.out) | (with_reducible refine Kd.C_alloc ?_ _) | (with_reducible refine Kd.C_drewN ?_ _) | (with_reducible refine Kd.C_drew ?_))); (case side2 => exact HC1326_2.out); rintro e w8 ⟨v1330, rfl, ho0, hb⟩; refine ⟨_, rfl, ?_⟩; have n0_ := Aside0.mk (Kd.S_elder' (by (with_reducible repeat (first | apply Kd.S_alloc | apply Kd.S_drewN | apply Kd.S_drew)); exact HO_3.out) (Kd.R_base ho0) hb); have n1_ := Aside0.mk (Kd.R_lower ho0 (below_size zb9)); have n2_ := Aside0.mk (below_step zb9 hb); clear HO_3; clear HB; have HO_3 := n0_; have HO1331 := n1_; have HB := n2_; clear n0_ n1_ n2_; (try clear hb); (try clear hb2); (try clear hk); (try clear hi); (try clear ho0); obtain ⟨Ao10, co10, eo10⟩ := Kd.R_slice HO1331.out; subst eo10) | ((with_reducible refine gate_builtin (b := .append) (xs := #[.tmp 12, .tmp 18]) rfl ?_); at_builtin; refine Kd.S_append k25 (w0 := w) w.heap.size rfl (.tmp 12) (.tmp 18) 50 25 (.agg #[(.int .i64 0), (.int .i64 0), (.slice none 0 0)]) 40 rfl Try.underlying50 info25 rfl (by decide) (by omega) u3 x3_1 (⟨t1327, t1328, t1329⟩ : S25) [.int .i64 t1327, .int .i64 t1328, .slice Ao10 t1329.length co10] (fun _ => True) (fun k_ => some k_ = (.slice Ao10 t1329.length co10 : Value).ownBlock) rfl rfl ?aP (fun k_ hk_ => ((Kd.R_mono (ok' := fun k_ => ((fun _ => True)) k_ ∧ some k_ ≠ (u3 : Value).ownBlock) (Kd.R_apart' (HO1331.out) (Kd.S_typed HO_3.out) (by decide)) (fun k_ hk => ⟨trivial, hk.2⟩))).1 k_ hk_.symm) ?aF ?aO ?aB ?aS ?aL ?_; (case aP => exact k25_mkM _ _ _ (⟨t1327, t1328, t1329⟩ : S25) (Kd.R_mono (Kd.R_tight rfl (Kd.R_mono (ok' := fun k_ => ((fun _ => True)) k_ ∧ some k_ ≠ (u3 : Value).ownBlock) (Kd.R_apart' (HO1331.out) (Kd.S_typed HO_3.out) (by decide)) (fun k_ hk => ⟨trivial, hk.2⟩))) (fun _ h_ => h_))); (case aB => exact zb9); (case aF => exact (fun _ _ => trivial)); (case aO => exact (by (with_reducible repeat (first | apply Kd.S_alloc | apply Kd.S_drewN | apply Kd.S_drew)); exact Kd.S_mono HO_3.out (fun k_ hk => ⟨trivial, fun e_ => hk.2 e_⟩))); (case aS => exact (below_size zb9)); (case aL => have := LMc7.out; omega); intro v1333 w9 ho hb hg hat; rw [← Ny1332.out] at ho; have n0_ := Aside0.mk (hb); have n1_ := Aside0.mk (ho); clear HB; clear HO_3; clear HO1331; have HB := n0_; have HO1334 := n1_; clear n0_ n1_; clear ho hb hg hat))
            go_roundg k1
            case measure => have := HK1.out; omega
            case rel => exact ⟨(y1332), (wrap64 (x4_1 + 1)), zb15, H', ⟨zb61⟩, ⟨by (with_reducible repeat (first | apply Kd.S_alloc | apply Kd.S_drewN | apply Kd.S_drew)); exact HO1334.out⟩, ⟨zb9⟩⟩
          · rw [if_neg c7] at H
            exact absurd H (by simp)
        · rw [if_neg c5] at H
          exact absurd H (by simp)
      · rw [if_neg c4] at H
        have c4b0 : decide (x4_1 < (l0.length : Int)) = false := decide_eq_false c4; clear c4; obtain rfl := Option.some.inj H
        go_wp2
        go_ret
        exact ⟨_, zb11, by (with_reducible repeat (first | apply Kd.S_alloc | apply Kd.S_drewN | apply Kd.S_drew)); exact HO_3.out, zb9⟩
def spec_l11Redo.l0 : Nat → List (S41) → List (S25) → Int → Option ((List (S25)))
  | 0, _, _, _ => none
  | k + 1, x1, x5, x6 => if x6 < (x1.length : Int) then (if 0 ≤ x6 then ((spec_l2Changes.f ((rd_T41 x1 x6).f0)).bind fun t1355 => (if t1355 = true then (if 0 ≤ ((rd_T41 x1 x6).f2) then (if ((rd_T41 x1 x6).f2) < (x5.length : Int) then (if ((rd_T25 x5 ((rd_T41 x1 x6).f2)).f0) < (wrap64 (x6 + 1)) then ((spec_l2Do.f ((rd_T25 x5 ((rd_T41 x1 x6).f2)).f0) ((rd_T25 x5 ((rd_T41 x1 x6).f2)).f1) ((rd_T25 x5 ((rd_T41 x1 x6).f2)).f2) ((rd_T41 x1 x6).f0) ((rd_T41 x1 x6).f1) ((rd_T41 x1 x6).f2) ((rd_T41 x1 x6).f3) ((rd_T41 x1 x6).f4) ((rd_T41 x1 x6).f5) ((rd_T41 x1 x6).f6) ((rd_T41 x1 x6).f7) (wrap64 (x6 + 1))).bind fun bt1358 => (spec_l11Redo.l0 k x1 (x5.set (((rd_T41 x1 x6).f2) : Int).toNat (⟨bt1358.1, bt1358.2.1, bt1358.2.2⟩ : S25)) (wrap64 (x6 + 1)))) else (spec_l11Redo.l0 k x1 x5 (wrap64 (x6 + 1)))) else (none)) else (none)) else (spec_l11Redo.l0 k x1 x5 (wrap64 (x6 + 1))))) else (none)) else (some x5)
def spec_l11Redo.f (k : Nat) (l0 : List (S25)) (l1 : List (S41)) : Option ((List (S25))) := (spec_l11CopyPages.f k l0).bind fun t1350 => (spec_l11Redo.l0 k l1 t1350 0)
def spec_l21First.l0 : Nat → List (S41) → Int → Option (Int)
  | 0, _, _ => none
  | k + 1, x0, x3 => if x3 ≤ 3 then ((spec_l3Last.f k x0 x3).bind fun t1364 => (if t1364 > 0 then (some x3) else (spec_l21First.l0 k x0 (wrap64 (x3 + 1))))) else (some 0)
def spec_l21First.f (k : Nat) (l0 : List (S41)) : Option (Int) := spec_l21First.l0 k l0 1
set_option maxHeartbeats 8000000 in
set_option maxRecDepth 100000 in
theorem spec_l21First.calls (k : Nat) (A0 : Option Addr) (c0 : Nat) (l0 : List (S41)) (r : Int) (w : World) (hr0 : Kd.C k41 w A0 l0.length l0) (hc0 : l0.length ≤ c0) (h : spec_l21First.f k l0 = some r) :
    Calls Try.prog 157 #[.slice A0 l0.length c0] w fun e w' => e = .returned (.int .i64 r) ∧ Drawn0 w w' := by
  have HR0 := Aside0.mk hr0; have HC0 := Aside0.mk hc0; clear hr0 hc0; have H : (spec_l21First.l0 k l0 1) = some r := h; clear h; have H' := Aside0.mk H; clear H
  go_enter Try.func157, Try.ntmps157
  go_wp2
  go_loopg [3] k (fun kq v3 w' => ∃ (x3_1 : Int), v3 = .int .i64 x3_1 ∧ Aside0 (spec_l21First.l0 kq l0 x3_1 = some r) ∧ Aside0 (kq ≤ k) ∧ Drawn0 w w')
  case atStart => exact ⟨(1), zb15, H', ⟨Nat.le_refl _⟩, zb25⟩
  case round =>
    clear H'
    try clear c1
    obtain ⟨x3_1, rfl, HA, HK1, ⟨m1, rfl⟩⟩ := hrel
    cases gk with
    | zero => exact absurd HA.out (by simp [spec_l21First.l0])
    | succ k1 =>
      have H := HA.out; clear HA; simp only [spec_l21First.l0] at H
      by_cases c2 : x3_1 ≤ 3
      · rw [if_pos c2] at H
        have c2b0 : decide (x3_1 ≤ 3) = true := decide_eq_true c2; clear c2; replace H := Option.bind_eq_some_iff.mp H; obtain ⟨t1364, A30, H⟩ := H; replace H : (if t1364 > 0 then (some x3_1) else (spec_l21First.l0 k1 l0 (wrap64 (x3_1 + 1)))) = some r := H; have A3 := Aside0.mk A30; clear A30
        by_cases c4 : t1364 > 0
        · rw [if_pos c4] at H
          have c4b0 : decide (0 < t1364) = true := decide_eq_true c4; clear c4; obtain rfl := Option.some.inj H
          go_wp2_with (first | ((with_reducible refine gate_callee (f := 84) rfl ?_); refine goesL_ (some 10) rfl rfl Try.func84 zb14 rfl #[.slice A0 l0.length c0, .int .i64 x3_1] rfl zb3 ?_; (with_reducible refine (spec_l3Last.calls k1 _ _ l0 x3_1 t1364 _ ?side1 ?side2 A3.out).mono ?_); (case side1 => exact zb54); (case side2 => exact HC0.out); rintro e w' ⟨rfl, ⟨nd, rfl⟩⟩; refine ⟨_, rfl, ?_⟩))
          go_ret
          exact ⟨zb15, zb25⟩
        · rw [if_neg c4] at H
          have c4b0 : decide (0 < t1364) = false := decide_eq_false c4; clear c4; have H' := Aside0.mk H; clear H
          go_wp2_with (first | ((with_reducible refine gate_callee (f := 84) rfl ?_); refine goesL_ (some 10) rfl rfl Try.func84 zb14 rfl #[.slice A0 l0.length c0, .int .i64 x3_1] rfl zb3 ?_; (with_reducible refine (spec_l3Last.calls k1 _ _ l0 x3_1 t1364 _ ?side1 ?side2 A3.out).mono ?_); (case side1 => exact zb54); (case side2 => exact HC0.out); rintro e w' ⟨rfl, ⟨nd, rfl⟩⟩; refine ⟨_, rfl, ?_⟩))
          go_roundg k1
          case measure => have := HK1.out; omega
          case rel => exact ⟨(wrap64 (x3_1 + 1)), zb15, H', ⟨zb61⟩, zb25⟩
      · rw [if_neg c2] at H
        have c2b0 : decide (x3_1 ≤ 3) = false := decide_eq_false c2; clear c2; obtain rfl := Option.some.inj H
        go_wp2
        go_ret
        exact ⟨zb15, zb25⟩
end Go.Proofs.Ytcefiblpnegepaa.Pr
