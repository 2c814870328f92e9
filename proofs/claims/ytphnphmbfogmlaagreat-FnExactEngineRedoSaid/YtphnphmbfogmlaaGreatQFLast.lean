import Derived.RangeFuncNested
import Derived.RangeFuncBound
import Derived.RangeFuncCalls
import Derived.RangeFuncLeaves
import Derived.Shelf.Abstract
import Derived.Shelf.RegionOpen
import Derived.WalkKit
import Derived.OwnWalkIn
import Derived.TacticsInMore
import Derived.LoopNIn
import Derived.LoopIn
import Derived.Test.YtphnphmbfogmlaaGreatQFByq
import Derived.Test.YtphnphmbfogmlaaGreatQFLogOk
namespace Go.Proofs.YtphnphmbfogmlaaGreat.T
open Go.RowKit Go.Shelf Go.PW Go.Proofs.YtphnphmbfogmlaaGreat.Pr
set_option linter.unusedSimpArgs false
set_option linter.unusedVariables false
attribute [local go_sem] Oper.semAt_some
def PU (x : S76) : Value := .agg #[.int .i64 x.f0, .int .i64 x.f1, .int .i64 x.f2, .int .i64 x.f3, .int .i64 x.f4, .int .i64 x.f5, .int .i64 x.f6, .int .i64 x.f7]
def VF (n k : Nat) : List Nat := (List.range k).map fun j => n - 1 - j
theorem Dy (n k : Nat) : VF n (k + 1) = VF n k ++ [n - 1 - k] := by simp [VF, List.range_succ]
theorem O5 (n k : Nat) : (VF n k).length = k := by simp [VF]
set_option maxRecDepth 100000 in
set_option maxHeartbeats 4000000 in
theorem XmP (F : Fence) (n : Nat) (h7 : F.fn 116) (hro : F.round = none) (hn : 1 ≤ n) (l Bs n₀ cap : Nat) (A : Option Addr) (xs : List S76) (w0 : World) (hC : Kd.C k76 w0 A xs.length xs) (J Jx : List Nat → World → Prop)
 (hY : ∀ (pre : List Nat) (x : Nat) (W : World), J pre W → pre.length < xs.length → YieldAt F (n - 1) Tryz.prog l #[.int .i64 (x : Int), PU (Xa xs (x : Int))] W fun e W' =>
  (e = .returned (.bool true) ∧ J (pre ++ [x]) W' ∧ Below n₀ W W') ∨ (e = .returned (.bool false) ∧ Jx (pre ++ [x]) W'))
 (W : World) (hb0 : Below w0.heap.size w0 W) (hBl : Bs < n₀) (hn0 : w0.heap.size ≤ n₀) (hBs : W.cell? ⟨Bs, 0, none⟩ = some (.slice A xs.length cap)) (h0 : J [] W) :
 CallsIn F n Tryz.prog 116 #[.func (.yield l) #[] #[], .pointer (some ⟨Bs, 0, none⟩)] W fun e W' => (∃ v, e = .returned v) ∧
  (J (VF xs.length xs.length) W' ∨ ∃ k, k ≤ xs.length ∧ Jx (VF xs.length k) W') := by
 have hm : xs.length ≤ 9223372036854775807 := hC.2.1; refine callsIn_of_wp Tryz.func116 rfl h7 ?_ hro; simp only [Tryz.ntmps116, List.size_toArray, List.length_cons, List.length_nil, Nat.reduceAdd, Nat.reduceSub, Array.replicate_succ, Array.replicate_zero, List.push_toArray, List.append_toArray, List.nil_append, List.cons_append]; have hw0 : wrap64 ((xs.length : Int) - 1) = (xs.length : Int) - 1 := T.wrap_small (by omega) (by omega)
 gi_wp2
 gi_loopw [3] (fun i wr => ∃ k : Nat, k ≤ xs.length ∧ i = .int .i64 ((xs.length : Int) - 1 - k) ∧ J (VF xs.length k) wr ∧ Below n₀ W wr)
  (fun i _ => (intOf i + 1).toNat)
 case atStart => exact ⟨0, Nat.zero_le _, by simp, h0, Below.refl _ _⟩
 case round =>
  obtain ⟨k, hk, rfl, hJs, hnx⟩ := hrel
  by_cases hlt : k < xs.length
  ·have e : (xs.length : Int) - 1 - k = ((xs.length - 1 - k : Nat) : Int) := by omega
   rw [e]; have hCr : Kd.C k76 wr A xs.length xs := Kd.Xg hC (hb0.trans (hnx.mono hn0)); have hB := (hnx.cell (p := ⟨Bs, 0, none⟩) hBl).trans hBs; have hp1 := eq_true (show (0 : Int) ≤ ((xs.length - 1 - k : Nat) : Int) by omega); have hp2 := eq_true (show ((xs.length - 1 - k : Nat) : Int) < (xs.length : Int) by omega); obtain ⟨ad, rfl, c0, c1, c2, c3, c4, c5, c6, c7⟩ := Ym hCr ((xs.length - 1 - k : Nat) : Int) (by omega) (by omega); simp only [Int.toNat_natCast] at c0 c1 c2 c3 c4 c5 c6 c7; obtain ⟨fn, tmps, assign, body, hy, hR⟩ := hY _ (xs.length - 1 - k) wr hJs (by rw [O5]; exact hlt)
   try dsimp only at hy
   unfold PU at hy
   generalize hj : xs.length - 1 - k = j at *; have hwj : wrap64 ((j : Int) - 1) = (j : Int) - 1 := T.wrap_small (by omega) (by omega)
   gi_wp2
   refine hR.mono ?_; rintro e3 W3 (⟨rfl, hJ3, hk3⟩ | ⟨rfl, hJx3⟩)
   ·gi_wp2
    go_roundw
    case rel => exact ⟨k + 1, by omega, by first | (congr 1; omega) | (simp; omega), by rw [Dy, hj]; exact hJ3, hnx.trans hk3⟩
    case measure => first | (simp [intOf]; done) | (simp [intOf]; omega)
   ·gi_wp2
    refine bodyPost_ret (results_none rfl _ _ _) rfl ?_; exact ⟨⟨_, rfl⟩, .inr ⟨k + 1, by omega, by rw [Dy, hj]; exact hJx3⟩⟩
  ·obtain rfl : k = xs.length := by omega
   have hneg : decide ((0 : Int) ≤ (xs.length : Int) - 1 - (xs.length : Int)) = false := decide_eq_false (by omega)
   gi_wp2
   go_end0
   exact ⟨⟨_, rfl⟩, .inl hJs⟩
set_option maxHeartbeats 1000000 in
theorem Xjq (F : Fence) (n : Nat) (h5 : F.fn 108) (hro : F.round = none) (a : Option Addr) (len cap : Nat) (w : World) :
 CallsIn F n Tryz.prog 108 #[.slice a len cap] w fun e w' => e = .returned (.func (.func 116) #[] #[.pointer (some ⟨w.heap.size, 0, none⟩)]) ∧ w' = w.alloc (.cells #[.slice a len cap] 29) := by
 refine callsIn_of_wp Tryz.func108 rfl h5 ?_ hro; simp only [Tryz.ntmps108, List.size_toArray, List.length_cons, List.length_nil, Nat.reduceAdd, Nat.reduceSub, Array.replicate_succ, Array.replicate_zero, List.push_toArray, List.append_toArray, List.nil_append, List.cons_append]
 gi_wp2
 go_ret
 exact ⟨rfl, rfl⟩
theorem Ep (F : Fence) (n : Nat) (h7 : F.fn 116) (hro : F.round = none) (hn : 1 ≤ n) (Bs n₀ cap : Nat) (A : Option Addr) (xs : List S76) (w0 w : World) (hC : Kd.C k76 w0 A xs.length xs)
 (hb0 : Below w0.heap.size w0 w) (hBs : Bs < n₀) (hn₀ : n₀ ≤ w.heap.size) (hw0 : w0.heap.size ≤ n₀) (hc : w.cell? ⟨Bs, 0, none⟩ = some (.slice A xs.length cap)) :
 SeqStopsK F n Tryz.prog 116 #[.pointer (some ⟨Bs, 0, none⟩)] (fun x : Nat => #[.int .i64 (x : Int), PU (Xa xs (x : Int))]) (Below n₀) (fun ys => ys = VF xs.length xs.length) (fun pre => ∃ k, k ≤ xs.length ∧ pre = VF xs.length k) xs.length w := fun l J Jx W hW _ _ hY h0 => by
 refine (XmP F n h7 hro hn l Bs n₀ cap A xs w0 hC J Jx hY W (hb0.trans (hW.mono hb0.size)) hBs hw0 ((hW.cell (p := ⟨Bs, 0, none⟩) zb99).trans hc) h0).mono ?_; rintro e W' ⟨he, hj | ⟨k, hk, hj⟩⟩
 ·exact ⟨he, .inl ⟨_, rfl, hj⟩⟩
 ·exact ⟨he, .inr ⟨_, ⟨k, hk, rfl⟩, hj⟩⟩
def Xjr (W : World) (B : Nat) (x : S76) : Prop :=
 W.cell? ⟨B, 0, none⟩ = some (.int .i64 x.f0) ∧ W.cell? ⟨B, 1, none⟩ = some (.int .i64 x.f1) ∧ W.cell? ⟨B, 2, none⟩ = some (.int .i64 x.f2) ∧ W.cell? ⟨B, 3, none⟩ = some (.int .i64 x.f3) ∧ W.cell? ⟨B, 4, none⟩ = some (.int .i64 x.f4) ∧ W.cell? ⟨B, 5, none⟩ = some (.int .i64 x.f5) ∧ W.cell? ⟨B, 6, none⟩ = some (.int .i64 x.f6) ∧ W.cell? ⟨B, 7, none⟩ = some (.int .i64 x.f7)
def Er (xs : List S76) (pre : List Nat) : Int := match pre.getLast? with
 | some x => if (Xa xs (x : Int)).f0 = 4 ∨ (Xa xs (x : Int)).f0 = 5 then 0 else wrap64 ((x : Int) + 1)
 | none => 0
theorem NF (xs : List S76) (pre : List Nat) (x : Nat) : Er xs (pre ++ [x]) = if (Xa xs (x : Int)).f0 = 4 ∨ (Xa xs (x : Int)).f0 = 5 then 0 else wrap64 ((x : Int) + 1) := by simp [Er]
theorem Xjs (F : Fence) (n : Nat) (h6 : F.fn 81) (hro : F.round = none) (y0 y1 y2 y3 y4 y5 y6 y7 : Int) (w : World) :
 CallsIn F n Tryz.prog 81 #[.agg #[.int .i64 y0, .int .i64 y1, .int .i64 y2, .int .i64 y3, .int .i64 y4, .int .i64 y5, .int .i64 y6, .int .i64 y7]] w fun e w' => e = .returned (.bool (y0 == 4 || y0 == 5)) ∧ w' = w.alloc (.cells #[.int .i64 y0, .int .i64 y1, .int .i64 y2, .int .i64 y3, .int .i64 y4, .int .i64 y5, .int .i64 y6, .int .i64 y7] 76) := by
 refine callsIn_of_wp Tryz.func81 rfl h6 ?_ hro; simp only [Tryz.ntmps81, List.size_toArray, List.length_cons, List.length_nil, Nat.reduceAdd, Nat.reduceSub, Array.replicate_succ, Array.replicate_zero, List.push_toArray, List.append_toArray, List.nil_append, List.cons_append]
 gi_wp2
 all_goals go_ret
 all_goals refine ⟨congrArg (fun b => Ending.returned (.bool b)) ?_, ?_⟩
 all_goals first | rfl | (simp_all; done) | simp_all
set_option maxRecDepth 100000 in
set_option maxHeartbeats 4000000 in
theorem Xrq (F : Fence) (n : Nat) (h3 : F.fn 89) (h4 : F.fn 108) (h5 : F.fn 116) (h6 : F.fn 81) (hro : F.round = none) (hn : 6 ≤ n) (A : Option Addr) (cap : Nat) (xs : List S76) (tx : Int) (w : World) (hC : Kd.C k76 w A xs.length xs) :
 CallsIn F n Tryz.prog 89 #[.slice A xs.length cap, .int .i64 tx] w fun e W' => (∃ r, e = .returned (.int .i64 r) ∧ ((r = 0 ∧ ∀ j ∈ VF xs.length xs.length, (Xa xs (j : Int)).f1 ≠ tx) ∨ ∃ k, k < xs.length ∧ (∀ j ∈ VF xs.length k, (Xa xs (j : Int)).f1 ≠ tx) ∧ (Xa xs ((xs.length - 1 - k : Nat) : Int)).f1 = tx ∧
  r = if (Xa xs ((xs.length - 1 - k : Nat) : Int)).f0 = 4 ∨ (Xa xs ((xs.length - 1 - k : Nat) : Int)).f0 = 5 then 0 else ((xs.length - 1 - k : Nat) : Int) + 1)) ∧ Below w.heap.size w W' := by
 have h1 : 1 ≤ n := by omega
 refine callsIn_of_wp_marks Tryz.func89 rfl h3 ?_ hro; simp only [Tryz.ntmps89, List.size_toArray, List.length_cons, List.length_nil, Nat.reduceAdd, Nat.reduceSub, Array.replicate_succ, Array.replicate_zero, List.push_toArray, List.append_toArray, List.nil_append, List.cons_append]
 gi_wp2_with (gi_at_call 108; refine (Xjq F (n - 1) h4 hro _ _ _ _).mono ?_; rintro e w' ⟨rfl, rfl⟩)
 have bT := ((Boxed.new w 3 (.int .i64 tx)).alloc (.cells #[.int .i64 0] 3)).alloc (.cells #[.slice A xs.length cap] 29); have bR := (Boxed.new (w.alloc (.cells #[.int .i64 tx] 3)) 3 (.int .i64 0)).alloc (.cells #[.slice A xs.length cap] 29); have bS := Boxed.new ((w.alloc (.cells #[.int .i64 tx] 3)).alloc (.cells #[.int .i64 0] 3)) 29 (.slice A xs.length cap); simp only [World.size_alloc] at bR bS; have hB0 : Below w.heap.size w (((w.alloc (.cells #[.int .i64 tx] 3)).alloc (.cells #[.int .i64 0] 3)).alloc (.cells #[.slice A xs.length cap] 29)) := (((Below.refl _ w).alloc (Nat.le_refl _) _).alloc (by simp) _).alloc zb99 _
 have hsz : (((w.alloc (.cells #[.int .i64 tx] 3)).alloc (.cells #[.int .i64 0] 3)).alloc (.cells #[.slice A xs.length cap] 29)).heap.size = w.heap.size + 3 := by simp
 obtain ⟨W0, hW0⟩ : ∃ W0, ((w.alloc (.cells #[.int .i64 tx] 3)).alloc (.cells #[.int .i64 0] 3)).alloc (.cells #[.slice A xs.length cap] 29) = W0 := ⟨_, rfl⟩
 rw [hW0] at bT bR bS hB0 hsz ⊢; clear hW0
 refine wpIn_rangeFunc_ownH hro h1 (gf := 116) (lb := #[.pointer (some ⟨w.heap.size + 1 + 1, 0, none⟩)]) rfl h5 (enters_of Tryz.func116 zb6 rfl)
  (Ep F (n - 1) h5 hro (by omega) (w.heap.size + 1 + 1) (w.heap.size + 3) cap A xs w W0 hC hB0 (by omega) (by omega) (by omega) bS.cell) belowK_t (belowK_b (by omega)) (Below.refl _ _) (fun _ => rfl)
  (fun pre W => ((((∀ j ∈ pre, (Xa xs (j : Int)).f1 ≠ tx) ∧ Boxed W (w.heap.size + 1) 3 (.int .i64 0)) ∧ Boxed W w.heap.size 3 (.int .i64 tx)) ∧ Boxed W (w.heap.size + 1 + 1) 29 (.slice A xs.length cap)) ∧ Below w.heap.size w W)
  (fun c pre W => ((c = .ret ∧ ∃ (pre' : List Nat) (x : Nat), pre = pre' ++ [x] ∧ (∀ j ∈ pre', (Xa xs (j : Int)).f1 ≠ tx) ∧ (Xa xs (x : Int)).f1 = tx) ∧ Boxed W (w.heap.size + 1) 3 (.int .i64 (Er xs pre))) ∧ Below w.heap.size w W)
  (OwnFrom.and (OwnFrom.and (OwnFrom.and (OwnFrom.and (ownFrom_pure _ _) (Own.from (boxed_own _ _ _) _)) (Own.from (boxed_own _ _ _) _)) (Own.from (boxed_own _ _ _) _)) (ownFrom_below (Nat.le_refl _) (by omega)))
  (fun c => OwnFrom.and (OwnFrom.and (ownFrom_pure _ _) (Own.from (boxed_own _ _ (fun pre => Value.int .i64 (Er xs pre))) _)) (ownFrom_below (Nat.le_refl _) (by omega)))
  ⟨⟨⟨⟨by simp, bR⟩, bT⟩, bS⟩, hB0⟩
  (fun x a' W => ∃ Bx, w.heap.size + 1 + 1 < Bx ∧ Xjr W Bx (Xa xs (x : Int)) ∧ a' = { tmps := #[.slice A xs.length cap, .int .i64 tx, undef, .pointer (some ⟨w.heap.size, 0, none⟩), .pointer (some ⟨w.heap.size + 1, 0, none⟩), .int .i64 (x : Int), .pointer (some ⟨Bx, 0, none⟩), .slice A xs.length cap, .func (.func 116) #[] #[.pointer (some ⟨w.heap.size + 1 + 1, 0, none⟩)], .int .i64 (x : Int), PU (Xa xs (x : Int)), undef, undef, undef, undef, undef, undef, undef, undef], defers := [] })
  (fun x a' _ X Y row hs hg hr => by
   obtain ⟨Bx, e1, ⟨q0, q1, q2, q3, q4, q5, q6, q7⟩, e3⟩ := hs
   exact ⟨Bx, e1, ⟨cell_kept q0 hg (fun r e => (hr r e).2), cell_kept q1 hg (fun r e => (hr r e).2), cell_kept q2 hg (fun r e => (hr r e).2), cell_kept q3 hg (fun r e => (hr r e).2), cell_kept q4 hg (fun r e => (hr r e).2), cell_kept q5 hg (fun r e => (hr r e).2), cell_kept q6 hg (fun r e => (hr r e).2), cell_kept q7 hg (fun r e => (hr r e).2)⟩, e3⟩)
  ?assign ?body ?done ?stop
 case assign =>
  rintro l pre x W K ⟨⟨⟨⟨hp, bR1⟩, bT1⟩, bS1⟩, hB1⟩ hK
  unfold PU
  gi_wp2
  exact hK _ _ ((KeepsOthers.alloc _ _).from _) ((Below.refl _ W).alloc (by have := bS1.lt; omega) _) ⟨⟨⟨⟨hp, bR1.alloc _⟩, bT1.alloc _⟩, bS1.alloc _⟩, hB1.alloc hB1.size _⟩ ⟨W.heap.size, bS1.lt, by unfold Xjr; refine ⟨?_, ?_, ?_, ?_, ?_, ?_, ?_, ?_⟩ <;> go_simp, rfl⟩
 case body =>
  rintro l pre x a' W hl ⟨r, hr⟩ ⟨⟨⟨⟨hp, bR1⟩, bT1⟩, bS1⟩, hB1⟩ ⟨Bx, hBx, ⟨q0, q1, q2, q3, q4, q5, q6, q7⟩, rfl⟩ hlt; have cT := bT1.cell; have cR := bR1.cell; have fR := bR1.frozen
  unfold PU
  by_cases ht : (Xa xs (x : Int)).f1 = tx
  ·have htb : ((Xa xs (x : Int)).f1 != tx) = false := by simp only [bne_eq_false_iff_eq]; exact ht
   have hsW := bS1.lt; have ltR := bR1.lt; have ltT := bT1.lt
   by_cases he : (Xa xs (x : Int)).f0 = 4 ∨ (Xa xs (x : Int)).f0 = 5
   ·have heb : ((Xa xs (x : Int)).f0 == 4 || (Xa xs (x : Int)).f0 == 5) = true := by rcases he with h | h <;> simp [h]
    gi_wp2_with (refine ⟨fun _ => by omega, ?_⟩; gi_at_call 81; refine (CallsIn.inRound l (Xjs F (n - 1 - 1 - 1) h6 hro _ _ _ _ _ _ _ _ _)).mono ?_; rintro e w' ⟨rfl, rfl⟩)
    exact ⟨zb48, ⟨⟨rfl, pre, x, rfl, hp, ht⟩, by rw [NF, if_pos he]; first | exact (bR1.alloc _).set _ | exact (bR1.set _).alloc _⟩, zb39⟩
   ·have heb : ((Xa xs (x : Int)).f0 == 4 || (Xa xs (x : Int)).f0 == 5) = false := by simp; omega
    gi_wp2_with (refine ⟨fun _ => by omega, ?_⟩; gi_at_call 81; refine (CallsIn.inRound l (Xjs F (n - 1 - 1 - 1) h6 hro _ _ _ _ _ _ _ _ _)).mono ?_; rintro e w' ⟨rfl, rfl⟩)
    exact ⟨zb48, ⟨⟨rfl, pre, x, rfl, hp, ht⟩, by rw [NF, if_neg he]; first | exact (bR1.alloc _).set _ | exact (bR1.set _).alloc _⟩, zb39⟩
  ·have htb : ((Xa xs (x : Int)).f1 != tx) = true := bne_iff_ne.mpr ht
   gi_wp2
   exact ⟨KeepsFrom.refl _ _, Below.refl _ _, ⟨⟨⟨fun z hz => (List.mem_append.1 hz).elim (hp z) (fun e => by simp at e; subst e; exact ht), bR1⟩, bT1⟩, bS1⟩, hB1⟩
 case done =>
  rintro D zs W hD rfl ⟨⟨⟨⟨hp, bR1⟩, bT1⟩, bS1⟩, hB1⟩ hK; have cR := bR1.cell; have fR := bR1.frozen
  gi_wp2
  have hK' := (KeepsOthers.setCell W ⟨w.heap.size + 1, 0, none⟩ (.int .i64 0)).same D _ hK rfl; refine ⟨by simp, .inl ⟨_, _, rfl, run_takeDeferred hK', ?_⟩⟩; have hc5 := cell_kept (bR1.set (.int .i64 0)).cell (grownBy_putObj' _ D (.deferred none)) (fun r e => by cases e; exact ⟨_, hK', rfl⟩); refine ⟨.int .i64 0, ?_, ⟨0, rfl, .inl ⟨rfl, hp⟩⟩, (hB1.setCell (p := ⟨w.heap.size + 1, 0, none⟩) (by simp) _).trans (belowK_b (w := w) (Nat.le_refl _) _ D _ _ (by omega) hK' rfl rfl)⟩
  simp [results, Tryz.f89, go_sem, hc5]
 case stop =>
  rintro D c pre W hD ⟨k, hk, hpre⟩ ⟨⟨⟨rfl, pre', x, he, hp, ht⟩, bR1⟩, hB1⟩ hK
  gi_wp2
  have hc5 := cell_kept bR1.cell (grownBy_putObj' _ D (.deferred none)) (fun r e => by cases e; exact ⟨_, hK, rfl⟩); refine ⟨by simp, .inl ⟨_, _, rfl, run_takeDeferred hK, ?_⟩⟩; refine ⟨.int .i64 (Er xs pre), ?_, ⟨_, rfl, .inr ?_⟩, hB1.trans (belowK_b (w := w) (Nat.le_refl _) _ D _ _ (by omega) hK rfl rfl)⟩
  ·simp [results, Tryz.f89, go_sem, hc5]
  ·have hm : xs.length ≤ 9223372036854775807 := hC.2.1
   obtain ⟨k1, rfl⟩ : ∃ j, k = j + 1 := ⟨k - 1, by
    cases k with
    | zero => rw [he] at hpre; simp [VF] at hpre
    | succ k => rfl⟩
   rw [Dy, he] at hpre; obtain ⟨e1, e2⟩ := List.append_inj' hpre rfl; simp only [List.cons.injEq, and_true] at e2; subst e1; subst e2; refine ⟨k1, by omega, hp, ht, ?_⟩; rw [he, NF, T.wrap_small (by omega) (by omega)]
theorem WA (xs : List S76) (tx : Int) : ∀ k, k ≤ xs.length → (∀ j ∈ VF xs.length k, (Xa xs (j : Int)).f1 ≠ tx) → lastB xs tx = lastB (xs.take (xs.length - k)) tx
 | 0, _, _ => by rw [Nat.sub_zero, List.take_length]
 | k + 1, hk, h => by
  rw [Dy] at h; rw [WA xs tx k (by omega) (fun j hj => h j (List.mem_append.2 (.inl hj)))]
  have e : xs.length - k = (xs.length - (k + 1)) + 1 := by omega
  have e2 : xs.length - 1 - k = xs.length - (k + 1) := by omega
  rw [e, XR xs (xs.length - (k + 1)) (by omega), if_neg (by rw [← e2]; exact h _ (List.mem_append.2 (.inr (by simp))))]
theorem Xfq (A : Option Addr) (cap : Nat) (xs : List S76) (tx : Int) (w : World) (hC : Kd.C k76 w A xs.length xs) :
 Calls Tryz.prog 89 #[.slice A xs.length cap, .int .i64 tx] w fun e W' => e = .returned (.int .i64 (lastB xs tx)) ∧ Below w.heap.size w W' := by
 refine (callsIn_wide (n := 6)).1 ((Xrq _ 6 trivial trivial trivial trivial rfl (by omega) A cap xs tx w hC).mono ?_); rintro e W' ⟨⟨r, rfl, hr⟩, hb⟩; refine ⟨?_, hb⟩
 rcases hr with ⟨rfl, hp⟩ | ⟨k, hk, hp, ht, rfl⟩
 ·rw [WA xs tx xs.length (Nat.le_refl _) hp, Nat.sub_self, List.take_zero]
  rfl
 ·rw [WA xs tx k (by omega) hp]
  have e : xs.length - k = (xs.length - 1 - k) + 1 := by omega
  rw [e, XR xs (xs.length - 1 - k) (by omega), if_pos ht]
end Go.Proofs.YtphnphmbfogmlaaGreat.T
namespace Go.Proofs.YtphnphmbfogmlaaGreat.Pr
open Go.RowKit Go.PW Go.Proofs.YtphnphmbfogmlaaGreat.T
set_option linter.unusedVariables false
def Jw.f (k : Nat) (l0 : List S76) (a1 : Int) : Option Int := some (lastB l0 a1)
theorem Jw.calls (k : Nat) (A0 : Option Addr) (c0 : Nat) (l0 : List S76) (a1 : Int) (r : Int) (w : World) (hr0 : Kd.C k76 w A0 l0.length l0) (hc0 : l0.length ≤ c0) (h : Jw.f k l0 a1 = some r) :
 Calls Tryz.prog 89 #[.slice A0 l0.length c0, .int .i64 a1] w fun e w' => e = .returned (.int .i64 r) ∧ Below w.heap.size w w' := by
 unfold Jw.f at h
 obtain rfl := Option.some.inj h; exact Xfq _ _ _ _ _ hr0
end Go.Proofs.YtphnphmbfogmlaaGreat.Pr
