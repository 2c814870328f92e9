import Derived.Test.YtcefiblpnegepaaQByq
import Derived.Test.YtcefiblpnegepaaQPrK
import Derived.Test.YtcefiblpnegepaaQSq
import Derived.Test.YtcefiblpnegepaaQPrNeed
import Derived.Test.YtcefiblpnegepaaQSx
namespace Go.Proofs.Ytcefiblpnegepaa.Pr
open Go.RowKit Go.Proofs.YtcefiblpnegepaaW.PrintWords Go.Proofs.YtcefiblpnegepaaW.PrintLast Go.Proofs.YtcefiblpnegepaaW.PrintMore
attribute [local go_sem] max2_int min2_int max_two min_two max_three min_three max_four min_four
set_option linter.unusedVariables false
set_option linter.unusedSimpArgs false
def spec_l3Has.l0 : Nat → List (S41) → Int → Int → Option (Bool)
 | 0, _, _, _ => none
 | k + 1, x0, x2, x7 => if x7 > 0 then (if 0 ≤ (wrap64 (x7 - 1)) then (if (wrap64 (x7 - 1)) < (x0.length : Int) then (if ((rd_T41 x0 (wrap64 (x7 - 1))).f2) = x2 then (some true) else (spec_l3Has.l0 k x0 x2 ((rd_T41 x0 (wrap64 (x7 - 1))).f6))) else (none)) else (none)) else (some false)
def spec_l3Has.f (k : Nat) (l0 : List (S41)) (a1 : Int) (a2 : Int) : Option (Bool) := (spec_l3Last.f k l0 a1).bind fun t1171 => (spec_l3Has.l0 k l0 a2 t1171)
set_option maxHeartbeats 8000000 in
set_option maxRecDepth 100000 in
theorem spec_l3Has.calls (k : Nat) (A0 : Option Addr) (c0 : Nat) (l0 : List (S41)) (a1 : Int) (a2 : Int) (r : Bool) (w : World) (hr0 : Kd.C k41 w A0 l0.length l0) (hc0 : l0.length ≤ c0) (h : spec_l3Has.f k l0 a1 a2 = some r) :
  Calls Try.prog 108 #[.slice A0 l0.length c0, .int .i64 a1, .int .i64 a2] w fun e w' => e = .returned (.bool r) ∧ Drawn0 w w' := by
 have HR0 := az hr0; have HC0 := az hc0; clear hr0 hc0; have H : ((spec_l3Last.f k l0 a1).bind fun t1171 => (spec_l3Has.l0 k l0 a2 t1171)) = some r := h; clear h; replace H := Option.bind_eq_some_iff.mp H; obtain ⟨t1171, A40, H⟩ := H; replace H : (spec_l3Has.l0 k l0 a2 t1171) = some r := H; have A4 := az A40; clear A40; have H' := az H; clear H
 go_enter Try.func108, Try.ntmps108
 go_wp2_with (first | ((with_reducible refine gate_callee (f := 84) rfl ?_); refine goesL_ (some 10) rfl rfl Try.func84 zb14 rfl #[.slice A0 l0.length c0, .int .i64 a1] rfl zb3 ?_; (with_reducible refine (spec_l3Last.calls k _ _ l0 a1 t1171 _ ?side1 ?side2 A4.out).mono ?_); (case side1 => exact zb54); (case side2 => exact HC0.out); rintro e w' ⟨rfl, ⟨nd, rfl⟩⟩; refine ⟨_, rfl, ?_⟩))
 go_loopg [7] k (fun kq v7 w' => ∃ (x7_1 : Int), v7 = .int .i64 x7_1 ∧ Aside0 (spec_l3Has.l0 kq l0 a2 x7_1 = some r) ∧ Aside0 (kq ≤ k) ∧ Drawn0 w w')
 case atStart => exact ⟨(t1171), zb15, H', ⟨Nat.le_refl _⟩, zb25⟩
 case round =>
  clear H';(try clear c1);(try clear p2)
  obtain ⟨x7_1, rfl, HA, HK1, ⟨m1, rfl⟩⟩ := hrel
  cases gk with
  | zero => exact absurd HA.out (by simp [spec_l3Has.l0])
  | succ k1 =>
   have H := HA.out; clear HA; simp only [spec_l3Has.l0] at H
   by_cases c5 : x7_1 > 0
   ·rw [if_pos c5] at H
    have c5b0 : decide (0 < x7_1) = true := decide_eq_true c5; clear c5
    obtain ⟨ji6, hji6⟩ : ∃ j_ : Int, (wrap64 (x7_1 - 1)) = j_ := ⟨_, rfl⟩
    replace H : (if 0 ≤ (ji6) then (if (ji6) < (l0.length : Int) then (if ((rd_T41 l0 (ji6)).f2) = a2 then (some true) else (spec_l3Has.l0 k1 l0 a2 ((rd_T41 l0 (ji6)).f6))) else (none)) else (none)) = some r := by first | (rw [hji6] at H; exact H) | (simp only [hji6] at H ⊢; exact H)
    have hji6w : (IntKind.i64.wrap (x7_1 - 1)) = ji6 := (i64_w _).trans hji6
    by_cases c7 : 0 ≤ (ji6)
    ·rw [if_pos c7] at H
     have c7b0 : decide (0 ≤ (ji6)) = true := decide_eq_true c7; clear c7
     by_cases c8 : (ji6) < (l0.length : Int)
     ·rw [if_pos c8] at H
      have c8b0 : decide ((ji6) < (l0.length : Int)) = true := decide_eq_true c8; clear c8
      by_cases c9 : ((rd_T41 l0 (ji6)).f2) = a2
      ·rw [if_pos c9] at H
       have c9b0 : (((rd_T41 l0 (ji6)).f2) == a2) = true := beq_iff_eq.mpr c9; have c9b1 : (((rd_T41 l0 (ji6)).f2) != a2) = false := bne_eq_false_iff_eq.mpr c9; clear c9; obtain rfl := Option.some.inj H; have p1172 : 0 ≤ ((ji6) : Int) := of_decide_eq_true zb10; have q1172 : (ji6) < (l0.length : Int) := of_decide_eq_true zb10; obtain ⟨ad1172, e1172, hx1172_0, hx1172_1, hx1172_2, hx1172_3, hx1172_4, hx1172_5, hx1172_6, hx1172_7⟩ := at_T41 HR0.out (ji6) p1172 q1172
       cases e1172
       replace p1172 := eq_true p1172; replace q1172 := eq_true q1172
       go_wp2
       go_ret
       exact ⟨zb59, zb25⟩
      ·rw [if_neg c9] at H
       have c9b0 : (((rd_T41 l0 (ji6)).f2) == a2) = false := beq_eq_false_iff_ne.mpr c9; have c9b1 : (((rd_T41 l0 (ji6)).f2) != a2) = true := bne_iff_ne.mpr c9; have H' := az H; clear H; have p1172 : 0 ≤ ((ji6) : Int) := of_decide_eq_true zb10; have q1172 : (ji6) < (l0.length : Int) := of_decide_eq_true zb10; obtain ⟨ad1172, e1172, hx1172_0, hx1172_1, hx1172_2, hx1172_3, hx1172_4, hx1172_5, hx1172_6, hx1172_7⟩ := at_T41 HR0.out (ji6) p1172 q1172
       cases e1172
       replace p1172 := eq_true p1172; replace q1172 := eq_true q1172; have p1173 : 0 ≤ ((ji6) : Int) := of_decide_eq_true zb10; have q1173 : (ji6) < (l0.length : Int) := of_decide_eq_true zb10; obtain ⟨ad1173, e1173, hx1173_0, hx1173_1, hx1173_2, hx1173_3, hx1173_4, hx1173_5, hx1173_6, hx1173_7⟩ := at_T41 HR0.out (ji6) p1173 q1173
       obtain rfl : ad1172 = ad1173 := (by injection e1173)
       replace p1173 := eq_true p1173; replace q1173 := eq_true q1173
       go_wp2
       go_roundg k1
       case measure => have := HK1.out; omega
       case rel => exact ⟨((rd_T41 l0 (ji6)).f6), zb59, H', ⟨zb61⟩, zb25⟩
     ·rw [if_neg c8] at H
      exact absurd H (by simp)
    ·rw [if_neg c7] at H
     exact absurd H (by simp)
   ·rw [if_neg c5] at H
    have c5b0 : decide (0 < x7_1) = false := decide_eq_false c5; clear c5; obtain rfl := Option.some.inj H
    go_wp2
    go_ret
    exact ⟨zb15, zb25⟩
def spec_l11Lock.l0 : Nat → Int → Int → List (S25) → List (S25) → List (S41) → Int → Bool → Option (Int)
 | 0, _, _, _, _, _, _, _ => none
 | k + 1, x1, x5, x1175000, x1175001, x1175002, x1175003, x1175004 => if x5 ≤ 3 then ((spec_l3Has.f k x1175002 x5 x1).bind fun t1175 => (if t1175 = true then (some x5) else (spec_l11Lock.l0 k x1 (wrap64 (x5 + 1)) x1175000 x1175001 x1175002 x1175003 x1175004))) else (some 0)
def spec_l11Lock.f (k : Nat) (l0_0 : List (S25)) (l0_1 : List (S25)) (l0_2 : List (S41)) (a0_3 : Int) (a0_4 : Bool) (a1 : Int) : Option (Int) := spec_l11Lock.l0 k a1 1 l0_0 l0_1 l0_2 a0_3 a0_4
set_option maxHeartbeats 8000000 in
set_option maxRecDepth 100000 in
theorem spec_l11Lock.calls (k : Nat) (A0_0 : Option Addr) (c0_0 : Nat) (l0_0 : List (S25)) (A0_1 : Option Addr) (c0_1 : Nat) (l0_1 : List (S25)) (A0_2 : Option Addr) (c0_2 : Nat) (l0_2 : List (S41)) (a0_3 : Int) (a0_4 : Bool) (a1 : Int) (r : Int) (w : World) (hr0_0 : Kd.C k25 w A0_0 l0_0.length l0_0) (hc0_0 : l0_0.length ≤ c0_0) (hr0_1 : Kd.C k25 w A0_1 l0_1.length l0_1) (hc0_1 : l0_1.length ≤ c0_1) (hr0_2 : Kd.C k41 w A0_2 l0_2.length l0_2) (hc0_2 : l0_2.length ≤ c0_2) (h : spec_l11Lock.f k l0_0 l0_1 l0_2 a0_3 a0_4 a1 = some r) :
  Calls Try.prog 131 #[.agg #[.slice A0_0 l0_0.length c0_0, .slice A0_1 l0_1.length c0_1, .slice A0_2 l0_2.length c0_2, .int .i64 a0_3, .bool a0_4], .int .i64 a1] w fun e w' => e = .returned (.int .i64 r) ∧ Below w.heap.size w w' := by
 have hu52 := Try.underlying52; have HR0_0 := az hr0_0; have HC0_0 := az hc0_0; clear hr0_0 hc0_0; have HR0_1 := az hr0_1; have HC0_1 := az hc0_1; clear hr0_1 hc0_1; have HR0_2 := az hr0_2; have HC0_2 := az hc0_2; clear hr0_2 hc0_2; have HB := az (Below.refl w.heap.size w); have H : (spec_l11Lock.l0 k a1 1 l0_0 l0_1 l0_2 a0_3 a0_4) = some r := h; clear h; have H' := az H; clear H
 go_enter Try.func131, Try.ntmps131
 go_wp2_with (first | ((with_reducible refine gate_dst (N := 2) rfl ?_); refine box_event ?hg (N := 2) ?hd (cs := #[.slice A0_0 l0_0.length c0_0, .slice A0_1 l0_1.length c0_1, .slice A0_2 l0_2.length c0_2, .int .i64 a0_3, .bool a0_4]) (t := 52) ?hr ?_; (case hd => rfl); (case hg => rfl); (case hr => exact zb20); intro gb1174 hg w3 hbox hb; have BK1174 := az (hbox); have GW1174 := az ((zb106 : w.heap.size ≤ gb1174)); have GE1174 := GW1174; replace HB := az (below_step zb7 hb); clear hb hbox hg))
 go_loopg [5] k (fun kq v5 w' => ∃ (x5_1 : Int), v5 = .int .i64 x5_1 ∧ Aside0 (spec_l11Lock.l0 kq a1 x5_1 l0_0 l0_1 l0_2 a0_3 a0_4 = some r) ∧ Aside0 (kq ≤ k) ∧ Aside0 (w'.heap[gb1174]? = some (.cells #[(.slice A0_0 l0_0.length c0_0), (.slice A0_1 l0_1.length c0_1), (.slice A0_2 l0_2.length c0_2), .int .i64 a0_3, .bool a0_4] 52 (0, 0))) ∧ Aside0 (Below w.heap.size w w'))
 case atStart => exact ⟨(1), zb15, H', ⟨Nat.le_refl _⟩, ⟨by (with_reducible repeat (first | apply bn | apply bd | apply ba)); exact BK1174.out⟩, ⟨zb4⟩⟩
 case round =>
  clear H';(try clear c1);(try clear p2)
  obtain ⟨x5_1, rfl, HA, HK1, BK1174, HB⟩ := hrel
  cases gk with
  | zero => exact absurd HA.out (by simp [spec_l11Lock.l0])
  | succ k1 =>
   have H := HA.out; clear HA; simp only [spec_l11Lock.l0] at H
   by_cases c4 : x5_1 ≤ 3
   ·rw [if_pos c4] at H
    have c4b0 : decide (x5_1 ≤ 3) = true := decide_eq_true c4; clear c4; replace H := Option.bind_eq_some_iff.mp H; obtain ⟨t1175, A50, H⟩ := H; replace H : (if t1175 = true then (some x5_1) else (spec_l11Lock.l0 k1 a1 (wrap64 (x5_1 + 1)) l0_0 l0_1 l0_2 a0_3 a0_4)) = some r := H; have A5 := az A50; clear A50
    by_cases c6 : t1175 = true
    ·subst c6
     have H1 : (some x5_1) = some r := by rw [if_pos rfl] at H; exact H
     clear H; have H := H1; clear H1; obtain rfl := Option.some.inj H; obtain ⟨hcz7_0, hcz7_1, hcz7_2, hcz7_3, hcz7_4⟩ := cz5 BK1174; obtain ⟨hfz7_0, hfz7_1, hfz7_2, hfz7_3, hfz7_4⟩ := fz5 BK1174
     go_wp2_with (first | ((with_reducible refine gate_callee (f := 108) rfl ?_); refine goesL_ (some 14) rfl rfl Try.func108 zb14 rfl #[.slice A0_2 l0_2.length c0_2, .int .i64 x5_1, .int .i64 a1] rfl zb3 ?_; (with_reducible refine (spec_l3Has.calls k1 _ _ l0_2 x5_1 a1 true _ ?side1 ?side2 A5.out).mono ?_); (case side1 => exact zb48); (case side2 => exact HC0_2.out); rintro e w' ⟨rfl, ⟨nd, rfl⟩⟩; refine ⟨_, rfl, ?_⟩))
     go_ret
     exact ⟨zb11, zb4⟩
    ·replace c6 := Bool.eq_false_iff.mpr c6
     subst c6
     have H1 : (spec_l11Lock.l0 k1 a1 (wrap64 (x5_1 + 1)) l0_0 l0_1 l0_2 a0_3 a0_4) = some r := by rw [if_neg (show ¬ (false = true) by decide)] at H; exact H
     clear H; have H := H1; clear H1; have H' := az H; clear H; obtain ⟨hcz8_0, hcz8_1, hcz8_2, hcz8_3, hcz8_4⟩ := cz5 BK1174; obtain ⟨hfz8_0, hfz8_1, hfz8_2, hfz8_3, hfz8_4⟩ := fz5 BK1174
     go_wp2_with (first | ((with_reducible refine gate_callee (f := 108) rfl ?_); refine goesL_ (some 14) rfl rfl Try.func108 zb14 rfl #[.slice A0_2 l0_2.length c0_2, .int .i64 x5_1, .int .i64 a1] rfl zb3 ?_; (with_reducible refine (spec_l3Has.calls k1 _ _ l0_2 x5_1 a1 false _ ?side1 ?side2 A5.out).mono ?_); (case side1 => exact zb48); (case side2 => exact HC0_2.out); rintro e w' ⟨rfl, ⟨nd, rfl⟩⟩; refine ⟨_, rfl, ?_⟩))
     go_roundg k1
     case measure => have := HK1.out; omega
     case rel => exact ⟨(wrap64 (x5_1 + 1)), zb15, H', ⟨zb61⟩, ⟨by (with_reducible repeat (first | apply bn | apply bd | apply ba)); exact BK1174.out⟩, ⟨zb4⟩⟩
   ·rw [if_neg c4] at H
    have c4b0 : decide (x5_1 ≤ 3) = false := decide_eq_false c4; clear c4; obtain rfl := Option.some.inj H
    go_wp2
    go_ret
    exact ⟨zb11, zb4⟩
def spec_l12May.f (k : Nat) (l0_0 : List (S25)) (l0_1 : List (S25)) (l0_2 : List (S41)) (a0_3 : Int) (a0_4 : Bool) (a1 : Int) (a2 : Int) : Option (Bool) := if a0_4 = true then (some false) else ((spec_l6In.f a1 1 3).bind fun t1237 => (if t1237 = true then ((spec_l6In.f a2 0 4).bind fun t1238 => (if t1238 = true then ((spec_l11Lock.f k l0_0 l0_1 l0_2 a0_3 a0_4 a2).bind fun t1239 => (if t1239 = 0 then (some true) else (some (t1239 == a1)))) else (some false))) else (some false)))
set_option maxHeartbeats 8000000 in
set_option maxRecDepth 100000 in
theorem spec_l12May.calls (k : Nat) (A0_0 : Option Addr) (c0_0 : Nat) (l0_0 : List (S25)) (A0_1 : Option Addr) (c0_1 : Nat) (l0_1 : List (S25)) (A0_2 : Option Addr) (c0_2 : Nat) (l0_2 : List (S41)) (a0_3 : Int) (a0_4 : Bool) (a1 : Int) (a2 : Int) (r : Bool) (w : World) (hr0_0 : Kd.C k25 w A0_0 l0_0.length l0_0) (hc0_0 : l0_0.length ≤ c0_0) (hr0_1 : Kd.C k25 w A0_1 l0_1.length l0_1) (hc0_1 : l0_1.length ≤ c0_1) (hr0_2 : Kd.C k41 w A0_2 l0_2.length l0_2) (hc0_2 : l0_2.length ≤ c0_2) (h : spec_l12May.f k l0_0 l0_1 l0_2 a0_3 a0_4 a1 a2 = some r) :
  Calls Try.prog 152 #[.agg #[.slice A0_0 l0_0.length c0_0, .slice A0_1 l0_1.length c0_1, .slice A0_2 l0_2.length c0_2, .int .i64 a0_3, .bool a0_4], .int .i64 a1, .int .i64 a2] w fun e w' => e = .returned (.bool r) ∧ Below w.heap.size w w' := by
 have hu52 := Try.underlying52; have HR0_0 := az hr0_0; have HC0_0 := az hc0_0; clear hr0_0 hc0_0; have HR0_1 := az hr0_1; have HC0_1 := az hc0_1; clear hr0_1 hc0_1; have HR0_2 := az hr0_2; have HC0_2 := az hc0_2; clear hr0_2 hc0_2; have HB := az (Below.refl w.heap.size w); have H : (if a0_4 = true then (some false) else ((spec_l6In.f a1 1 3).bind fun t1237 => (if t1237 = true then ((spec_l6In.f a2 0 4).bind fun t1238 => (if t1238 = true then ((spec_l11Lock.f k l0_0 l0_1 l0_2 a0_3 a0_4 a2).bind fun t1239 => (if t1239 = 0 then (some true) else (some (t1239 == a1)))) else (some false))) else (some false)))) = some r := h; clear h
 by_cases c4 : a0_4 = true
 ·subst c4
  have H1 : (some false) = some r := by rw [if_pos rfl] at H; exact H
  clear H; have H := H1; clear H1; obtain rfl := Option.some.inj H
  go_enter Try.func152, Try.ntmps152
  go_wp2_with (first | ((with_reducible refine gate_dst (N := 3) rfl ?_); refine box_event ?hg (N := 3) ?hd (cs := #[.slice A0_0 l0_0.length c0_0, .slice A0_1 l0_1.length c0_1, .slice A0_2 l0_2.length c0_2, .int .i64 a0_3, .bool true]) (t := 52) ?hr ?_; (case hd => rfl); (case hg => rfl); (case hr => exact zb20); intro gb1236 hg w5 hbox hb; have BK1236 := az (hbox); have GW1236 := az ((zb106 : w.heap.size ≤ gb1236)); have GE1236 := GW1236; replace HB := az (below_step zb7 hb); clear hb hbox hg; obtain ⟨hcz6_0, hcz6_1, hcz6_2, hcz6_3, hcz6_4⟩ := cz5 BK1236; obtain ⟨hfz6_0, hfz6_1, hfz6_2, hfz6_3⟩ := fz4 BK1236; have hfz6_4 := blk_frozen BK1236.out 4))
  go_ret
  exact ⟨zb11, zb4⟩
 ·replace c4 := Bool.eq_false_iff.mpr c4
  subst c4
  have H1 : ((spec_l6In.f a1 1 3).bind fun t1237 => (if t1237 = true then ((spec_l6In.f a2 0 4).bind fun t1238 => (if t1238 = true then ((spec_l11Lock.f k l0_0 l0_1 l0_2 a0_3 false a2).bind fun t1239 => (if t1239 = 0 then (some true) else (some (t1239 == a1)))) else (some false))) else (some false))) = some r := by rw [if_neg (show ¬ (false = true) by decide)] at H; exact H
  clear H; have H := H1; clear H1; replace H := Option.bind_eq_some_iff.mp H; obtain ⟨t1237, A70, H⟩ := H; replace H : (if t1237 = true then ((spec_l6In.f a2 0 4).bind fun t1238 => (if t1238 = true then ((spec_l11Lock.f k l0_0 l0_1 l0_2 a0_3 false a2).bind fun t1239 => (if t1239 = 0 then (some true) else (some (t1239 == a1)))) else (some false))) else (some false)) = some r := H; have A7 := az A70; clear A70
  by_cases c8 : t1237 = true
  ·subst c8
   have H1 : ((spec_l6In.f a2 0 4).bind fun t1238 => (if t1238 = true then ((spec_l11Lock.f k l0_0 l0_1 l0_2 a0_3 false a2).bind fun t1239 => (if t1239 = 0 then (some true) else (some (t1239 == a1)))) else (some false))) = some r := by rw [if_pos rfl] at H; exact H
   clear H; have H := H1; clear H1; replace H := Option.bind_eq_some_iff.mp H; obtain ⟨t1238, A90, H⟩ := H; replace H : (if t1238 = true then ((spec_l11Lock.f k l0_0 l0_1 l0_2 a0_3 false a2).bind fun t1239 => (if t1239 = 0 then (some true) else (some (t1239 == a1)))) else (some false)) = some r := H; have A9 := az A90; clear A90
   by_cases c10 : t1238 = true
   ·subst c10
    have H1 : ((spec_l11Lock.f k l0_0 l0_1 l0_2 a0_3 false a2).bind fun t1239 => (if t1239 = 0 then (some true) else (some (t1239 == a1)))) = some r := by rw [if_pos rfl] at H; exact H
    clear H; have H := H1; clear H1; replace H := Option.bind_eq_some_iff.mp H; obtain ⟨t1239, A110, H⟩ := H; replace H : (if t1239 = 0 then (some true) else (some (t1239 == a1))) = some r := H; have A11 := az A110; clear A110
    by_cases c12 : t1239 = 0
    ·rw [if_pos c12] at H
     have c12b0 : (t1239 == 0) = true := beq_iff_eq.mpr c12; have c12b1 : (t1239 != 0) = false := bne_eq_false_iff_eq.mpr c12; clear c12; obtain rfl := Option.some.inj H
     go_enter Try.func152, Try.ntmps152
     go_wp2_with (first | ((with_reducible refine gate_dst (N := 3) rfl ?_); refine box_event ?hg (N := 3) ?hd (cs := #[.slice A0_0 l0_0.length c0_0, .slice A0_1 l0_1.length c0_1, .slice A0_2 l0_2.length c0_2, .int .i64 a0_3, .bool false]) (t := 52) ?hr ?_; (case hd => rfl); (case hg => rfl); (case hr => exact zb20); intro gb1236 hg w13 hbox hb; have BK1236 := az (hbox); have GW1236 := az ((zb106 : w.heap.size ≤ gb1236)); have GE1236 := GW1236; replace HB := az (below_step zb7 hb); clear hb hbox hg; obtain ⟨hcz14_0, hcz14_1, hcz14_2, hcz14_3, hcz14_4⟩ := cz5 BK1236; obtain ⟨hfz14_0, hfz14_1, hfz14_2, hfz14_3⟩ := fz4 BK1236; have hfz14_4 := blk_frozen BK1236.out 4) | (go_at_call 81; (with_reducible refine (spec_l6In.calls a1 1 3 true _ A7.out).mono ?_); rintro e w' ⟨rfl, ⟨nd, rfl⟩⟩) | (go_at_call 81; (with_reducible refine (spec_l6In.calls a2 0 4 true _ A9.out).mono ?_); rintro e w' ⟨rfl, ⟨nd, rfl⟩⟩) | ((with_reducible refine gate_callee (f := 131) rfl ?_); refine goesL_ (some 22) rfl rfl Try.func131 zb14 rfl #[.agg #[.slice A0_0 l0_0.length c0_0, .slice A0_1 l0_1.length c0_1, .slice A0_2 l0_2.length c0_2, .int .i64 a0_3, .bool false], .int .i64 a2] rfl zb3 ?_; (with_reducible refine (spec_l11Lock.calls k _ _ l0_0 _ _ l0_1 _ _ l0_2 a0_3 false a2 t1239 _ ?side1 ?side2 ?side3 ?side4 ?side5 ?side6 A11.out).mono ?_); (case side1 => exact zb115); (case side2 => exact HC0_0.out); (case side3 => exact zb114); (case side4 => exact HC0_1.out); (case side5 => exact zb113); (case side6 => exact HC0_2.out); rintro e w15 ⟨rfl, hb⟩; refine ⟨_, rfl, ?_⟩; replace BK1236 := bb BK1236 (fun h => by (with_reducible repeat (first | apply bn | apply bd | apply ba)); exact h) hb; replace HB := az (below_step zb4 hb); (try clear hb); (try clear hb2); (try clear hk); (try clear hi)))
     go_ret
     exact ⟨zb11, zb4⟩
    ·rw [if_neg c12] at H
     have c12b0 : (t1239 == 0) = false := beq_eq_false_iff_ne.mpr c12; have c12b1 : (t1239 != 0) = true := bne_iff_ne.mpr c12; obtain rfl := Option.some.inj H
     go_enter Try.func152, Try.ntmps152
     go_wp2_with (first | ((with_reducible refine gate_dst (N := 3) rfl ?_); refine box_event ?hg (N := 3) ?hd (cs := #[.slice A0_0 l0_0.length c0_0, .slice A0_1 l0_1.length c0_1, .slice A0_2 l0_2.length c0_2, .int .i64 a0_3, .bool false]) (t := 52) ?hr ?_; (case hd => rfl); (case hg => rfl); (case hr => exact zb20); intro gb1236 hg w16 hbox hb; have BK1236 := az (hbox); have GW1236 := az ((zb106 : w.heap.size ≤ gb1236)); have GE1236 := GW1236; replace HB := az (below_step zb7 hb); clear hb hbox hg; obtain ⟨hcz17_0, hcz17_1, hcz17_2, hcz17_3, hcz17_4⟩ := cz5 BK1236; obtain ⟨hfz17_0, hfz17_1, hfz17_2, hfz17_3⟩ := fz4 BK1236; have hfz17_4 := blk_frozen BK1236.out 4) | (go_at_call 81; (with_reducible refine (spec_l6In.calls a1 1 3 true _ A7.out).mono ?_); rintro e w' ⟨rfl, ⟨nd, rfl⟩⟩) | (go_at_call 81; (with_reducible refine (spec_l6In.calls a2 0 4 true _ A9.out).mono ?_); rintro e w' ⟨rfl, ⟨nd, rfl⟩⟩) | ((with_reducible refine gate_callee (f := 131) rfl ?_); refine goesL_ (some 22) rfl rfl Try.func131 zb14 rfl #[.agg #[.slice A0_0 l0_0.length c0_0, .slice A0_1 l0_1.length c0_1, .slice A0_2 l0_2.length c0_2, .int .i64 a0_3, .bool false], .int .i64 a2] rfl zb3 ?_; (with_reducible refine (spec_l11Lock.calls k _ _ l0_0 _ _ l0_1 _ _ l0_2 a0_3 false a2 t1239 _ ?side1 ?side2 ?side3 ?side4 ?side5 ?side6 A11.out).mono ?_); (case side1 => exact zb115); (case side2 => exact HC0_0.out); (case side3 => exact zb114); (case side4 => exact HC0_1.out); (case side5 => exact zb113); (case side6 => exact HC0_2.out); rintro e w18 ⟨rfl, hb⟩; refine ⟨_, rfl, ?_⟩; replace BK1236 := bb BK1236 (fun h => by (with_reducible repeat (first | apply bn | apply bd | apply ba)); exact h) hb; replace HB := az (below_step zb4 hb); (try clear hb); (try clear hb2); (try clear hk); (try clear hi)))
     go_ret
     exact ⟨zb11, zb4⟩
   ·replace c10 := Bool.eq_false_iff.mpr c10
    subst c10
    have H1 : (some false) = some r := by rw [if_neg (show ¬ (false = true) by decide)] at H; exact H
    clear H; have H := H1; clear H1; obtain rfl := Option.some.inj H
    go_enter Try.func152, Try.ntmps152
    go_wp2_with (first | ((with_reducible refine gate_dst (N := 3) rfl ?_); refine box_event ?hg (N := 3) ?hd (cs := #[.slice A0_0 l0_0.length c0_0, .slice A0_1 l0_1.length c0_1, .slice A0_2 l0_2.length c0_2, .int .i64 a0_3, .bool false]) (t := 52) ?hr ?_; (case hd => rfl); (case hg => rfl); (case hr => exact zb20); intro gb1236 hg w19 hbox hb; have BK1236 := az (hbox); have GW1236 := az ((zb106 : w.heap.size ≤ gb1236)); have GE1236 := GW1236; replace HB := az (below_step zb7 hb); clear hb hbox hg; obtain ⟨hcz20_0, hcz20_1, hcz20_2, hcz20_3, hcz20_4⟩ := cz5 BK1236; obtain ⟨hfz20_0, hfz20_1, hfz20_2, hfz20_3⟩ := fz4 BK1236; have hfz20_4 := blk_frozen BK1236.out 4) | (go_at_call 81; (with_reducible refine (spec_l6In.calls a1 1 3 true _ A7.out).mono ?_); rintro e w' ⟨rfl, ⟨nd, rfl⟩⟩) | (go_at_call 81; (with_reducible refine (spec_l6In.calls a2 0 4 false _ A9.out).mono ?_); rintro e w' ⟨rfl, ⟨nd, rfl⟩⟩))
    go_ret
    exact ⟨zb11, zb4⟩
  ·replace c8 := Bool.eq_false_iff.mpr c8
   subst c8
   have H1 : (some false) = some r := by rw [if_neg (show ¬ (false = true) by decide)] at H; exact H
   clear H; have H := H1; clear H1; obtain rfl := Option.some.inj H
   go_enter Try.func152, Try.ntmps152
   go_wp2_with (first | ((with_reducible refine gate_dst (N := 3) rfl ?_); refine box_event ?hg (N := 3) ?hd (cs := #[.slice A0_0 l0_0.length c0_0, .slice A0_1 l0_1.length c0_1, .slice A0_2 l0_2.length c0_2, .int .i64 a0_3, .bool false]) (t := 52) ?hr ?_; (case hd => rfl); (case hg => rfl); (case hr => exact zb20); intro gb1236 hg w21 hbox hb; have BK1236 := az (hbox); have GW1236 := az ((zb106 : w.heap.size ≤ gb1236)); have GE1236 := GW1236; replace HB := az (below_step zb7 hb); clear hb hbox hg; obtain ⟨hcz22_0, hcz22_1, hcz22_2, hcz22_3, hcz22_4⟩ := cz5 BK1236; obtain ⟨hfz22_0, hfz22_1, hfz22_2, hfz22_3⟩ := fz4 BK1236; have hfz22_4 := blk_frozen BK1236.out 4) | (go_at_call 81; (with_reducible refine (spec_l6In.calls a1 1 3 false _ A7.out).mono ?_); rintro e w' ⟨rfl, ⟨nd, rfl⟩⟩))
   go_ret
   exact ⟨zb11, zb4⟩
def spec_l12Took.l0 : Nat → List (S41) → Int → Int → Option (Bool)
 | 0, _, _, _ => none
 | k + 1, x0, x2, x7 => if x7 > 0 then (if 0 ≤ (wrap64 (x7 - 1)) then (if (wrap64 (x7 - 1)) < (x0.length : Int) then (if ((rd_T41 x0 (wrap64 (x7 - 1))).f0) = 2 then (if ((rd_T41 x0 (wrap64 (x7 - 1))).f2) = x2 then (if ((rd_T41 x0 (wrap64 (x7 - 1))).f5) > 0 then (some true) else (spec_l12Took.l0 k x0 x2 ((rd_T41 x0 (wrap64 (x7 - 1))).f6))) else (spec_l12Took.l0 k x0 x2 ((rd_T41 x0 (wrap64 (x7 - 1))).f6))) else (spec_l12Took.l0 k x0 x2 ((rd_T41 x0 (wrap64 (x7 - 1))).f6))) else (none)) else (none)) else (some false)
def spec_l12Took.f (k : Nat) (l0 : List (S41)) (a1 : Int) (a2 : Int) : Option (Bool) := (spec_l3Last.f k l0 a1).bind fun t1283 => (spec_l12Took.l0 k l0 a2 t1283)
set_option maxHeartbeats 8000000 in
set_option maxRecDepth 100000 in
theorem spec_l12Took.calls (k : Nat) (A0 : Option Addr) (c0 : Nat) (l0 : List (S41)) (a1 : Int) (a2 : Int) (r : Bool) (w : World) (hr0 : Kd.C k41 w A0 l0.length l0) (hc0 : l0.length ≤ c0) (h : spec_l12Took.f k l0 a1 a2 = some r) :
  Calls Try.prog 154 #[.slice A0 l0.length c0, .int .i64 a1, .int .i64 a2] w fun e w' => e = .returned (.bool r) ∧ Below w.heap.size w w' := by
 have hu41 := Try.underlying41; have HR0 := az hr0; have HC0 := az hc0; clear hr0 hc0; have HB := az (Below.refl w.heap.size w); have H : ((spec_l3Last.f k l0 a1).bind fun t1283 => (spec_l12Took.l0 k l0 a2 t1283)) = some r := h; clear h; replace H := Option.bind_eq_some_iff.mp H; obtain ⟨t1283, A40, H⟩ := H; replace H : (spec_l12Took.l0 k l0 a2 t1283) = some r := H; have A4 := az A40; clear A40; have H' := az H; clear H
 go_enter Try.func154, Try.ntmps154
 go_wp2_with (first | ((with_reducible refine gate_callee (f := 84) rfl ?_); refine goesL_ (some 11) rfl rfl Try.func84 zb14 rfl #[.slice A0 l0.length c0, .int .i64 a1] rfl zb3 ?_; (with_reducible refine (spec_l3Last.calls k _ _ l0 a1 t1283 _ ?side1 ?side2 A4.out).mono ?_); (case side1 => exact zb54); (case side2 => exact HC0.out); rintro e w' ⟨rfl, ⟨nd, rfl⟩⟩; refine ⟨_, rfl, ?_⟩))
 go_loopg [7] k (fun kq v7 w' => ∃ (x7_1 : Int), v7 = .int .i64 x7_1 ∧ Aside0 (spec_l12Took.l0 kq l0 a2 x7_1 = some r) ∧ Aside0 (kq ≤ k) ∧ Aside0 (Below w.heap.size w w'))
 case atStart => exact ⟨(t1283), zb15, H', ⟨Nat.le_refl _⟩, ⟨zb7⟩⟩
 case round =>
  clear H';(try clear c1);(try clear p2)
  obtain ⟨x7_1, rfl, HA, HK1, HB⟩ := hrel
  cases gk with
  | zero => exact absurd HA.out (by simp [spec_l12Took.l0])
  | succ k1 =>
   have H := HA.out; clear HA; simp only [spec_l12Took.l0] at H
   by_cases c5 : x7_1 > 0
   ·rw [if_pos c5] at H
    have c5b0 : decide (0 < x7_1) = true := decide_eq_true c5; clear c5
    obtain ⟨ji6, hji6⟩ : ∃ j_ : Int, (wrap64 (x7_1 - 1)) = j_ := ⟨_, rfl⟩
    replace H : (if 0 ≤ (ji6) then (if (ji6) < (l0.length : Int) then (if ((rd_T41 l0 (ji6)).f0) = 2 then (if ((rd_T41 l0 (ji6)).f2) = a2 then (if ((rd_T41 l0 (ji6)).f5) > 0 then (some true) else (spec_l12Took.l0 k1 l0 a2 ((rd_T41 l0 (ji6)).f6))) else (spec_l12Took.l0 k1 l0 a2 ((rd_T41 l0 (ji6)).f6))) else (spec_l12Took.l0 k1 l0 a2 ((rd_T41 l0 (ji6)).f6))) else (none)) else (none)) = some r := by first | (rw [hji6] at H; exact H) | (simp only [hji6] at H ⊢; exact H)
    have hji6w : (IntKind.i64.wrap (x7_1 - 1)) = ji6 := (i64_w _).trans hji6
    by_cases c7 : 0 ≤ (ji6)
    ·rw [if_pos c7] at H
     have c7b0 : decide (0 ≤ (ji6)) = true := decide_eq_true c7; clear c7
     by_cases c8 : (ji6) < (l0.length : Int)
     ·rw [if_pos c8] at H
      have c8b0 : decide ((ji6) < (l0.length : Int)) = true := decide_eq_true c8; clear c8
      by_cases c9 : ((rd_T41 l0 (ji6)).f0) = 2
      ·rw [if_pos c9] at H
       have c9b0 : (((rd_T41 l0 (ji6)).f0) == 2) = true := beq_iff_eq.mpr c9; have c9b1 : (((rd_T41 l0 (ji6)).f0) != 2) = false := bne_eq_false_iff_eq.mpr c9; clear c9
       by_cases c10 : ((rd_T41 l0 (ji6)).f2) = a2
       ·rw [if_pos c10] at H
        have c10b0 : (((rd_T41 l0 (ji6)).f2) == a2) = true := beq_iff_eq.mpr c10; have c10b1 : (((rd_T41 l0 (ji6)).f2) != a2) = false := bne_eq_false_iff_eq.mpr c10; clear c10
        by_cases c11 : ((rd_T41 l0 (ji6)).f5) > 0
        ·rw [if_pos c11] at H
         have c11b0 : decide (0 < ((rd_T41 l0 (ji6)).f5)) = true := decide_eq_true c11; clear c11; obtain rfl := Option.some.inj H; have p1284 : 0 ≤ ((ji6) : Int) := of_decide_eq_true zb10; have q1284 : (ji6) < (l0.length : Int) := of_decide_eq_true zb10; obtain ⟨ad1284, e1284, hx1284_0, hx1284_1, hx1284_2, hx1284_3, hx1284_4, hx1284_5, hx1284_6, hx1284_7⟩ := at_T41 HR0.out (ji6) p1284 q1284
         cases e1284
         replace hx1284_0 := cb HB hx1284_0; replace hx1284_1 := cb HB hx1284_1; replace hx1284_2 := cb HB hx1284_2; replace hx1284_3 := cb HB hx1284_3; replace hx1284_4 := cb HB hx1284_4; replace hx1284_5 := cb HB hx1284_5; replace hx1284_6 := cb HB hx1284_6; replace hx1284_7 := cb HB hx1284_7; replace p1284 := eq_true p1284; replace q1284 := eq_true q1284
         go_wp2_with (first | ((with_reducible refine gate_dst (N := 8) rfl ?_); refine box_event ?hg (N := 8) ?hd (cs := #[.int .i64 0, .int .i64 0, .int .i64 0, .int .i64 0, .int .i64 0, .int .i64 0, .int .i64 0, .int .i64 0]) (t := 41) ?hr ?_; (case hd => rfl); (case hg => rfl); (case hr => exact zb20); intro gb1285 hg w12 hbox hb; have BK1285 := az (hbox); have GW1285 := az ((zb106 : w.heap.size ≤ gb1285)); have GE1285 := GW1285; replace HB := az (below_step zb7 hb); clear hb hbox hg; obtain ⟨hcz13_0, hcz13_1, hcz13_2, hcz13_3, hcz13_4, hcz13_5, hcz13_6, hcz13_7⟩ := cz8 BK1285; obtain ⟨hfz13_0, hfz13_1, hfz13_2, hfz13_3, hfz13_4, hfz13_5, hfz13_6⟩ := fz7 BK1285; have hfz13_7 := blk_frozen BK1285.out 7))
         go_ret
         exact ⟨by first | rfl | (simp [errW_none, errW_some] <;> rfl) | (simp only [← hji6]; first | rfl | (simp [errW_none, errW_some] <;> rfl)) | (simp [*, errW_none, errW_some] <;> rfl), zb4⟩
        ·rw [if_neg c11] at H
         have c11b0 : decide (0 < ((rd_T41 l0 (ji6)).f5)) = false := decide_eq_false c11; clear c11; have H' := az H; clear H; have p1284 : 0 ≤ ((ji6) : Int) := of_decide_eq_true zb10; have q1284 : (ji6) < (l0.length : Int) := of_decide_eq_true zb10; obtain ⟨ad1284, e1284, hx1284_0, hx1284_1, hx1284_2, hx1284_3, hx1284_4, hx1284_5, hx1284_6, hx1284_7⟩ := at_T41 HR0.out (ji6) p1284 q1284
         cases e1284
         replace hx1284_0 := cb HB hx1284_0; replace hx1284_1 := cb HB hx1284_1; replace hx1284_2 := cb HB hx1284_2; replace hx1284_3 := cb HB hx1284_3; replace hx1284_4 := cb HB hx1284_4; replace hx1284_5 := cb HB hx1284_5; replace hx1284_6 := cb HB hx1284_6; replace hx1284_7 := cb HB hx1284_7; replace p1284 := eq_true p1284; replace q1284 := eq_true q1284
         go_wp2_with (first | ((with_reducible refine gate_dst (N := 8) rfl ?_); refine box_event ?hg (N := 8) ?hd (cs := #[.int .i64 0, .int .i64 0, .int .i64 0, .int .i64 0, .int .i64 0, .int .i64 0, .int .i64 0, .int .i64 0]) (t := 41) ?hr ?_; (case hd => rfl); (case hg => rfl); (case hr => exact zb20); intro gb1285 hg w14 hbox hb; have BK1285 := az (hbox); have GW1285 := az ((zb106 : w.heap.size ≤ gb1285)); have GE1285 := GW1285; replace HB := az (below_step zb7 hb); clear hb hbox hg; obtain ⟨hcz15_0, hcz15_1, hcz15_2, hcz15_3, hcz15_4, hcz15_5, hcz15_6, hcz15_7⟩ := cz8 BK1285; obtain ⟨hfz15_0, hfz15_1, hfz15_2, hfz15_3, hfz15_4, hfz15_5, hfz15_6, hfz15_7⟩ := fz8 BK1285; have p1286 : 0 ≤ ((ji6) : Int) := of_decide_eq_true zb10; have q1286 : (ji6) < (l0.length : Int) := of_decide_eq_true zb10; obtain ⟨ad1286, e1286, hx1286_0, hx1286_1, hx1286_2, hx1286_3, hx1286_4, hx1286_5, hx1286_6, hx1286_7⟩ := at_T41 HR0.out (ji6) p1286 q1286; obtain rfl : ad1284 = ad1286 := (by injection e1286); have hn1286 := nq hx1286_0 GW1285; replace hx1286_0 := cb HB hx1286_0; replace hx1286_1 := cb HB hx1286_1; replace hx1286_2 := cb HB hx1286_2; replace hx1286_3 := cb HB hx1286_3; replace hx1286_4 := cb HB hx1286_4; replace hx1286_5 := cb HB hx1286_5; replace hx1286_6 := cb HB hx1286_6; replace hx1286_7 := cb HB hx1286_7; replace hx1286_0 := c8 (rd_T41 l0 (ji6)) hx1286_0 (na hn1286); replace hx1286_1 := c8 (rd_T41 l0 (ji6)) hx1286_1 (na hn1286); replace hx1286_2 := c8 (rd_T41 l0 (ji6)) hx1286_2 (na hn1286); replace hx1286_3 := c8 (rd_T41 l0 (ji6)) hx1286_3 (na hn1286); replace hx1286_4 := c8 (rd_T41 l0 (ji6)) hx1286_4 (na hn1286); replace hx1286_5 := c8 (rd_T41 l0 (ji6)) hx1286_5 (na hn1286); replace hx1286_6 := c8 (rd_T41 l0 (ji6)) hx1286_6 (na hn1286); replace hx1286_7 := c8 (rd_T41 l0 (ji6)) hx1286_7 (na hn1286); clear hn1286; replace p1286 := eq_true p1286; replace q1286 := eq_true q1286))
         go_roundg k1
         case measure => have := HK1.out; omega
         case rel => exact ⟨((rd_T41 l0 (ji6)).f6), zb59, H', ⟨zb61⟩, ⟨zb4⟩⟩
       ·rw [if_neg c10] at H
        have c10b0 : (((rd_T41 l0 (ji6)).f2) == a2) = false := beq_eq_false_iff_ne.mpr c10; have c10b1 : (((rd_T41 l0 (ji6)).f2) != a2) = true := bne_iff_ne.mpr c10; have H' := az H; clear H; have p1284 : 0 ≤ ((ji6) : Int) := of_decide_eq_true zb10; have q1284 : (ji6) < (l0.length : Int) := of_decide_eq_true zb10; obtain ⟨ad1284, e1284, hx1284_0, hx1284_1, hx1284_2, hx1284_3, hx1284_4, hx1284_5, hx1284_6, hx1284_7⟩ := at_T41 HR0.out (ji6) p1284 q1284
        cases e1284
        replace hx1284_0 := cb HB hx1284_0; replace hx1284_1 := cb HB hx1284_1; replace hx1284_2 := cb HB hx1284_2; replace hx1284_3 := cb HB hx1284_3; replace hx1284_4 := cb HB hx1284_4; replace hx1284_5 := cb HB hx1284_5; replace hx1284_6 := cb HB hx1284_6; replace hx1284_7 := cb HB hx1284_7; replace p1284 := eq_true p1284; replace q1284 := eq_true q1284
        go_wp2_with (first | ((with_reducible refine gate_dst (N := 8) rfl ?_); refine box_event ?hg (N := 8) ?hd (cs := #[.int .i64 0, .int .i64 0, .int .i64 0, .int .i64 0, .int .i64 0, .int .i64 0, .int .i64 0, .int .i64 0]) (t := 41) ?hr ?_; (case hd => rfl); (case hg => rfl); (case hr => exact zb20); intro gb1285 hg w16 hbox hb; have BK1285 := az (hbox); have GW1285 := az ((zb106 : w.heap.size ≤ gb1285)); have GE1285 := GW1285; replace HB := az (below_step zb7 hb); clear hb hbox hg; obtain ⟨hcz17_0, hcz17_1, hcz17_2, hcz17_3, hcz17_4, hcz17_5, hcz17_6, hcz17_7⟩ := cz8 BK1285; obtain ⟨hfz17_0, hfz17_1, hfz17_2, hfz17_3, hfz17_4, hfz17_5, hfz17_6, hfz17_7⟩ := fz8 BK1285; have p1287 : 0 ≤ ((ji6) : Int) := of_decide_eq_true zb10; have q1287 : (ji6) < (l0.length : Int) := of_decide_eq_true zb10; obtain ⟨ad1287, e1287, hx1287_0, hx1287_1, hx1287_2, hx1287_3, hx1287_4, hx1287_5, hx1287_6, hx1287_7⟩ := at_T41 HR0.out (ji6) p1287 q1287; obtain rfl : ad1284 = ad1287 := (by injection e1287); have hn1287 := nq hx1287_0 GW1285; replace hx1287_0 := cb HB hx1287_0; replace hx1287_1 := cb HB hx1287_1; replace hx1287_2 := cb HB hx1287_2; replace hx1287_3 := cb HB hx1287_3; replace hx1287_4 := cb HB hx1287_4; replace hx1287_5 := cb HB hx1287_5; replace hx1287_6 := cb HB hx1287_6; replace hx1287_7 := cb HB hx1287_7; replace hx1287_0 := c8 (rd_T41 l0 (ji6)) hx1287_0 (na hn1287); replace hx1287_1 := c8 (rd_T41 l0 (ji6)) hx1287_1 (na hn1287); replace hx1287_2 := c8 (rd_T41 l0 (ji6)) hx1287_2 (na hn1287); replace hx1287_3 := c8 (rd_T41 l0 (ji6)) hx1287_3 (na hn1287); replace hx1287_4 := c8 (rd_T41 l0 (ji6)) hx1287_4 (na hn1287); replace hx1287_5 := c8 (rd_T41 l0 (ji6)) hx1287_5 (na hn1287); replace hx1287_6 := c8 (rd_T41 l0 (ji6)) hx1287_6 (na hn1287); replace hx1287_7 := c8 (rd_T41 l0 (ji6)) hx1287_7 (na hn1287); clear hn1287; replace p1287 := eq_true p1287; replace q1287 := eq_true q1287))
        go_roundg k1
        case measure => have := HK1.out; omega
        case rel => exact ⟨((rd_T41 l0 (ji6)).f6), zb59, H', ⟨zb61⟩, ⟨zb4⟩⟩
      ·rw [if_neg c9] at H
       have c9b0 : (((rd_T41 l0 (ji6)).f0) == 2) = false := beq_eq_false_iff_ne.mpr c9; have c9b1 : (((rd_T41 l0 (ji6)).f0) != 2) = true := bne_iff_ne.mpr c9; have H' := az H; clear H; have p1284 : 0 ≤ ((ji6) : Int) := of_decide_eq_true zb10; have q1284 : (ji6) < (l0.length : Int) := of_decide_eq_true zb10; obtain ⟨ad1284, e1284, hx1284_0, hx1284_1, hx1284_2, hx1284_3, hx1284_4, hx1284_5, hx1284_6, hx1284_7⟩ := at_T41 HR0.out (ji6) p1284 q1284
       cases e1284
       replace hx1284_0 := cb HB hx1284_0; replace hx1284_1 := cb HB hx1284_1; replace hx1284_2 := cb HB hx1284_2; replace hx1284_3 := cb HB hx1284_3; replace hx1284_4 := cb HB hx1284_4; replace hx1284_5 := cb HB hx1284_5; replace hx1284_6 := cb HB hx1284_6; replace hx1284_7 := cb HB hx1284_7; replace p1284 := eq_true p1284; replace q1284 := eq_true q1284
       go_wp2_with (first | ((with_reducible refine gate_dst (N := 8) rfl ?_); refine box_event ?hg (N := 8) ?hd (cs := #[.int .i64 0, .int .i64 0, .int .i64 0, .int .i64 0, .int .i64 0, .int .i64 0, .int .i64 0, .int .i64 0]) (t := 41) ?hr ?_; (case hd => rfl); (case hg => rfl); (case hr => exact zb20); intro gb1285 hg w18 hbox hb; have BK1285 := az (hbox); have GW1285 := az ((zb106 : w.heap.size ≤ gb1285)); have GE1285 := GW1285; replace HB := az (below_step zb7 hb); clear hb hbox hg; obtain ⟨hcz19_0, hcz19_1, hcz19_2, hcz19_3, hcz19_4, hcz19_5, hcz19_6, hcz19_7⟩ := cz8 BK1285; obtain ⟨hfz19_0, hfz19_1, hfz19_2, hfz19_3, hfz19_4, hfz19_5, hfz19_6, hfz19_7⟩ := fz8 BK1285; have p1288 : 0 ≤ ((ji6) : Int) := of_decide_eq_true zb10; have q1288 : (ji6) < (l0.length : Int) := of_decide_eq_true zb10; obtain ⟨ad1288, e1288, hx1288_0, hx1288_1, hx1288_2, hx1288_3, hx1288_4, hx1288_5, hx1288_6, hx1288_7⟩ := at_T41 HR0.out (ji6) p1288 q1288; obtain rfl : ad1284 = ad1288 := (by injection e1288); have hn1288 := nq hx1288_0 GW1285; replace hx1288_0 := cb HB hx1288_0; replace hx1288_1 := cb HB hx1288_1; replace hx1288_2 := cb HB hx1288_2; replace hx1288_3 := cb HB hx1288_3; replace hx1288_4 := cb HB hx1288_4; replace hx1288_5 := cb HB hx1288_5; replace hx1288_6 := cb HB hx1288_6; replace hx1288_7 := cb HB hx1288_7; replace hx1288_0 := c8 (rd_T41 l0 (ji6)) hx1288_0 (na hn1288); replace hx1288_1 := c8 (rd_T41 l0 (ji6)) hx1288_1 (na hn1288); replace hx1288_2 := c8 (rd_T41 l0 (ji6)) hx1288_2 (na hn1288); replace hx1288_3 := c8 (rd_T41 l0 (ji6)) hx1288_3 (na hn1288); replace hx1288_4 := c8 (rd_T41 l0 (ji6)) hx1288_4 (na hn1288); replace hx1288_5 := c8 (rd_T41 l0 (ji6)) hx1288_5 (na hn1288); replace hx1288_6 := c8 (rd_T41 l0 (ji6)) hx1288_6 (na hn1288); replace hx1288_7 := c8 (rd_T41 l0 (ji6)) hx1288_7 (na hn1288); clear hn1288; replace p1288 := eq_true p1288; replace q1288 := eq_true q1288))
       go_roundg k1
       case measure => have := HK1.out; omega
       case rel => exact ⟨((rd_T41 l0 (ji6)).f6), zb59, H', ⟨zb61⟩, ⟨zb4⟩⟩
     ·rw [if_neg c8] at H
      exact absurd H (by simp)
    ·rw [if_neg c7] at H
     exact absurd H (by simp)
   ·rw [if_neg c5] at H
    have c5b0 : decide (0 < x7_1) = false := decide_eq_false c5; clear c5; obtain rfl := Option.some.inj H
    go_wp2
    go_ret
    exact ⟨zb11, zb7⟩
end Go.Proofs.Ytcefiblpnegepaa.Pr
