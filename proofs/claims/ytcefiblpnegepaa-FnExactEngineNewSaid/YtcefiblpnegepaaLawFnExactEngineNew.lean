/- The walk of FnExactEngineNew. -/
import Derived.Test.YtcefiblpnegepaaEngN
namespace Go.Proofs.Ytcefiblpnegepaa.Pr
open Go.RowKit Go.Proofs.YtcefiblpnegepaaW.PrintWords Go.Proofs.YtcefiblpnegepaaW.PrintLast Go.Proofs.YtcefiblpnegepaaW.PrintMore
attribute [local go_sem] max2_int min2_int max_two min_two max_three min_three max_four min_four
set_option linter.unusedVariables false
set_option linter.unusedSimpArgs false
def mk5 (x : Int) : List S25 := [⟨x, x + 1, [x + 2, x + 3, x + 4]⟩, ⟨x + 5, x + 6, [x + 7, x + 8, x + 9]⟩, ⟨x + 10, x + 11, [x + 12, x + 13, x + 14]⟩, ⟨x + 15, x + 16, [x + 17, x + 18, x + 19]⟩, ⟨x + 20, x + 21, [x + 22, x + 23, x + 24]⟩]
theorem mark_a : laws_markPageS.f 10 pg5 1 = some (26, mk5 1) := by kernel_rfl
theorem mark_b : laws_markPageS.f 10 pg5 26 = some (51, mk5 26) := by kernel_rfl
theorem mark_c : laws_markRecS.f 10 [] 51 = some (51, []) := by kernel_rfl
theorem held_e : laws_heldEngine.f 10 (mk5 1) (mk5 26) [] 0 false 1 = some 51 := by kernel_rfl
theorem eq_e : laws_eqEngine.f 10 pg5 pg5 [] 0 false pg5 pg5 [] 0 false = some true := by kernel_rfl
theorem spec_e : spec_EngineNew.f 10 = some (pg5, pg5, [], 0, false) := by kernel_rfl
/-- What is told of an engine made anew, in a later world. -/
structure EngC (w : World) (v0 v1 v2 : Value) (l0 l1 : List S25) : Prop where
  c0 : ∃ A c, v0 = .slice A l0.length c ∧ l0.length ≤ c ∧ Kd.C k25 w A l0.length l0
  c1 : ∃ A c, v1 = .slice A l1.length c ∧ l1.length ≤ c ∧ Kd.C k25 w A l1.length l1
  c2 : ∃ A c, v2 = .slice A 0 c ∧ Kd.C k41 w A 0 []
def Eng3 (w : World) (base : Nat) (ok : Nat → Prop) (v0 v1 v2 : Value) (l0 l1 : List S25) : Prop :=
  Kd.S k25 25 w base ok v0 l0 ∧ Kd.S k25 25 w base ok v1 l1 ∧ Kd.R k41 41 w base ok v2 []
theorem Eng3.below {w w' : World} {base : Nat} {ok : Nat → Prop} {v0 v1 v2 : Value} {l0 l1 : List S25} (h : Eng3 w base ok v0 v1 v2 l0 l1) (hb : Below w.heap.size w w') : Eng3 w' base ok v0 v1 v2 l0 l1 := ⟨Kd.S_below h.1 hb, Kd.S_below h.2.1 hb, Kd.R_below h.2.2 hb⟩
theorem Eng3.kept {w w' : World} {base : Nat} {ok S : Nat → Prop} {v0 v1 v2 : Value} {l0 l1 : List S25} (h : Eng3 w base ok v0 v1 v2 l0 l1) (hk : Kept w w' S) (hne : ∀ k, ok k → ¬ S k) : Eng3 w' base ok v0 v1 v2 l0 l1 := ⟨Kd.S_kept h.1 hk hne, Kd.S_kept h.2.1 hk hne, Kd.R_kept h.2.2 hk hne⟩
theorem Eng3.c {w : World} {base : Nat} {ok : Nat → Prop} {v0 v1 v2 : Value} {l0 l1 : List S25} (h : Eng3 w base ok v0 v1 v2 l0 l1) : EngC w v0 v1 v2 l0 l1 := by
  refine ⟨Kd.S_reads h.1, Kd.S_reads h.2.1, ?_⟩
  obtain ⟨A, c, e, hl, hc⟩ := Kd.R_reads h.2.2
  exact ⟨A, c, e, hc⟩
theorem eqEngine_calls (w : World) (u0 u1 u2 v0 v1 v2 : Value) (hu : EngC w u0 u1 u2 pg5 pg5) (hv : EngC w v0 v1 v2 pg5 pg5) :
    Calls Try.prog 46 #[.agg #[u0, u1, u2, .int .i64 0, .bool false], .agg #[v0, v1, v2, .int .i64 0, .bool false]] w fun e w' => e = .returned (.bool true) ∧ Below w.heap.size w w' := by
  obtain ⟨⟨A0, c0, rfl, hc0, hC0⟩, ⟨A1, c1, rfl, hc1, hC1⟩, ⟨A2, c2, rfl, hC2⟩⟩ := hu
  obtain ⟨⟨B0, d0, rfl, hd0, hD0⟩, ⟨B1, d1, rfl, hd1, hD1⟩, ⟨B2, d2, rfl, hD2⟩⟩ := hv
  exact laws_eqEngine.calls 10 A0 c0 pg5 A1 c1 pg5 A2 c2 [] 0 false B0 d0 pg5 B1 d1 pg5 B2 d2 [] 0 false true w hC0 hc0 hC1 hc1 hC2 (Nat.zero_le _) hD0 hd0 hD1 hd1 hD2 (Nat.zero_le _) eq_e
theorem heldEngine_calls (w : World) (v0 v1 v2 : Value) (hv : EngC w v0 v1 v2 (mk5 1) (mk5 26)) :
    Calls Try.prog 48 #[.agg #[v0, v1, v2, .int .i64 0, .bool false], .int .i64 1] w fun e w' => e = .returned (.int .i64 51) ∧ Below w.heap.size w w' := by
  obtain ⟨⟨B0, d0, rfl, hd0, hD0⟩, ⟨B1, d1, rfl, hd1, hD1⟩, ⟨B2, d2, rfl, hD2⟩⟩ := hv
  exact laws_heldEngine.calls 10 B0 d0 _ B1 d1 _ B2 d2 [] 0 false 1 51 w hD0 hd0 hD1 hd1 hD2 (Nat.zero_le _) held_e
/-- A variable of an engine, in memory. -/
def Box (w : World) (g : Nat) (v0 v1 v2 : Value) : Prop := w.heap[g]? = some (.cells #[v0, v1, v2, .int .i64 0, .bool false] 52 (0, 0))
theorem Box.cells {w : World} {g : Nat} {v0 v1 v2 : Value} (h : Box w g v0 v1 v2) : w.cell? ⟨g, 0, none⟩ = some v0 ∧ w.cell? ⟨g, 1, none⟩ = some v1 ∧ w.cell? ⟨g, 2, none⟩ = some v2 ∧ w.cell? ⟨g, 3, none⟩ = some (.int .i64 0) ∧ w.cell? ⟨g, 4, none⟩ = some (.bool false) :=
  ⟨(blk_cell h 0).trans rfl, (blk_cell h 1).trans rfl, (blk_cell h 2).trans rfl, (blk_cell h 3).trans rfl, (blk_cell h 4).trans rfl⟩
theorem Box.new (w : World) (v0 v1 v2 : Value) : Box (w.alloc (.cells #[v0, v1, v2, .int .i64 0, .bool false] 52 (0, 0))) w.heap.size v0 v1 v2 := blk_new _ _
theorem Box.bel (w : World) (v0 v1 v2 : Value) : Below w.heap.size w (w.alloc (.cells #[v0, v1, v2, .int .i64 0, .bool false] 52 (0, 0))) := below_alloc (Below.refl _ _) _
set_option maxHeartbeats 8000000 in
set_option maxRecDepth 100000 in
theorem FnExactEngineNew_walk (w : World) : Calls Try.prog 8 #[] w fun e w' => e = .returned (.bool true) ∧ Below w.heap.size w w' := by
  have hu := Try.underlying52
  go_enter Try.func8, Try.ntmps8
  go_wp2_with fail
  refine (spec_EngineNew.calls 10 pg5 pg5 [] 0 false _ spec_e).mono ?_
  rintro e w1 ⟨u0, u1, u2, rfl, hS0, hS1, hR, hb1⟩
  obtain ⟨A0, c0, e0⟩ := Kd.S_slice hS0
  obtain ⟨A1, c1, e1⟩ := Kd.S_slice hS1
  obtain ⟨A2, c2, e2⟩ := Kd.R_slice hR
  subst e0 e1 e2
  have E1 := Aside0.mk (show Eng3 w1 w.heap.size (fun k => k < w1.heap.size) (.slice A0 pg5.length c0) (.slice A1 pg5.length c1) (.slice A2 ([] : List S41).length c2) pg5 pg5 from ⟨Kd.S_mono (Kd.S_bound hS0) (fun k hk => hk.2.2.1), Kd.S_mono (Kd.S_bound hS1) (fun k hk => hk.2.2.1), Kd.R_mono (Kd.R_bound hR) (fun k hk => hk.2.2.1)⟩)
  have HB := Aside0.mk hb1
  clear hS0 hS1 hR hb1
  go_wp2_with fail
  refine (engNew _).mono ?_
  rintro e w2 ⟨B0, d0, B1, d1, m, rfl, hT0, hT1, hb2⟩
  have hz2 := Aside0.mk hb2.size
  have bel1 := Box.bel w1 (.slice A0 pg5.length c0) (.slice A1 pg5.length c1) (.slice A2 0 c2)
  have E2 := Aside0.mk ((E1.out.below bel1).below hb2)
  have X2 : Aside0 (Box w2 w1.heap.size (.slice A0 pg5.length c0) (.slice A1 pg5.length c1) (.slice A2 0 c2)) := ⟨blk_below (Box.new w1 _ _ _) hb2⟩
  have HB2 := Aside0.mk (below_step (below_step HB.out bel1) hb2)
  have hlt : w1.heap.size < w2.heap.size := blk_lt X2.out
  have T0 := Aside0.mk (Kd.S_mono (Kd.S_lower (Kd.S_bound hT0) (Nat.le_trans HB.out.size (Nat.le_trans (Nat.le_succ _) (by simp)))) (ok' := fun k => w1.heap.size < k ∧ k < w2.heap.size ∧ k < m) (fun k hk => ⟨by have := hk.2.1; simp at this; omega, hk.2.2.1, hk.1⟩))
  have T1 := Aside0.mk (Kd.S_mono (Kd.S_lower (Kd.S_bound hT1) (Nat.le_trans HB.out.size (Nat.le_trans (Nat.le_succ _) (by simp)))) (ok' := fun k => w1.heap.size < k ∧ k < w2.heap.size ∧ m ≤ k) (fun k hk => ⟨by have := hk.2.1; simp at this; omega, hk.2.2.1, hk.1⟩))
  clear hT0 hT1 hb2 bel1 E1 HB hz2
  obtain ⟨x0, x1, x2, x3, x4⟩ := X2.out.cells
  have hne : w2.heap.size ≠ w1.heap.size := by omega
  have hne' : w1.heap.size ≠ w2.heap.size := by omega
  go_wp2_with fail
  have bel2 := Box.bel w2 (.slice B0 5 d0) (.slice B1 5 d1) (.slice none 0 0)
  have G2 := Aside0.mk (show Eng3 _ w.heap.size (fun k => w1.heap.size < k ∧ k < w2.heap.size) (.slice B0 5 d0) (.slice B1 5 d1) (.slice none 0 0) pg5 pg5 from ⟨Kd.S_mono (Kd.S_below T0.out bel2) (fun k hk => ⟨hk.1, hk.2.1⟩), Kd.S_mono (Kd.S_below T1.out bel2) (fun k hk => ⟨hk.1, hk.2.1⟩), Kd.R_nil _ _ _ _ _⟩)
  refine (eqEngine_calls _ _ _ _ _ _ _ G2.out.c (E2.out.below bel2).c).mono ?_
  rintro e w3 ⟨rfl, hb3⟩
  have E3 := Aside0.mk ((E2.out.below bel2).below hb3)
  have U0 := Aside0.mk (Kd.S_below (Kd.S_below T0.out bel2) hb3)
  have U1 := Aside0.mk (Kd.S_below (Kd.S_below T1.out bel2) hb3)
  have X3 : Aside0 (Box w3 w1.heap.size (.slice A0 pg5.length c0) (.slice A1 pg5.length c1) (.slice A2 0 c2)) := ⟨blk_below (blk_below X2.out bel2) hb3⟩
  have Y3 : Aside0 (Box w3 w2.heap.size (.slice B0 5 d0) (.slice B1 5 d1) (.slice none 0 0)) := ⟨blk_below (Box.new w2 _ _ _) hb3⟩
  have HB3 := Aside0.mk (below_step (below_step HB2.out bel2) hb3)
  have hlt3 := Aside0.mk (blk_lt Y3.out)
  clear hb3 bel2 E2 X2 T0 T1 G2 HB2 x0 x1 x2 x3 x4
  obtain ⟨x0, x1, x2, x3, x4⟩ := Y3.out.cells
  go_wp2_with fail
  refine (laws_markEngine.calls 10 (fun k => w1.heap.size < k ∧ k < w2.heap.size ∧ k < m) (fun k => w1.heap.size < k ∧ k < w2.heap.size ∧ m ≤ k) (fun _ => False) (.slice B0 5 d0) (.slice B1 5 d1) (.slice none 0 0) pg5 pg5 [] 0 false 1 26 51 51 (mk5 1) (mk5 26) [] w w3 HB3.out U0.out U1.out (Kd.R_nil _ _ _ _ _) (fun j hj => by have := hlt3.out; omega) (fun j hj => by have := hlt3.out; omega) (fun j hj => hj.elim) (fun j hj hp => by omega) (fun j hj hp => hp.elim) (fun j hj hp => hp.elim) mark_a mark_b mark_c).mono ?_
  rintro e w4 ⟨rfl, hm0, hm1, hm2, hb4, hk4⟩
  clear x0 x1 x2 x3 x4
  have E4 := Aside0.mk (E3.out.kept hk4 (fun k hk hp => by rcases hp with hp | hp | hp; omega; omega; exact hp))
  have X4 : Aside0 (Box w4 w1.heap.size (.slice A0 pg5.length c0) (.slice A1 pg5.length c1) (.slice A2 0 c2)) := ⟨blk_kept X3.out hk4 (fun hp => by rcases hp with hp | hp | hp; omega; omega; exact hp)⟩
  have Y4 : Aside0 (Box w4 w2.heap.size (.slice B0 5 d0) (.slice B1 5 d1) (.slice none 0 0)) := ⟨blk_kept Y3.out hk4 (fun hp => by rcases hp with hp | hp | hp; omega; omega; exact hp)⟩
  have G4 := Aside0.mk (show Eng3 w4 w.heap.size (fun k => True) (.slice B0 5 d0) (.slice B1 5 d1) (.slice none 0 0) (mk5 1) (mk5 26) from ⟨Kd.S_mono hm0 (fun _ _ => trivial), Kd.S_mono hm1 (fun _ _ => trivial), Kd.R_nil _ _ _ _ _⟩)
  have HB4 := Aside0.mk hb4
  clear hm0 hm1 hm2 hb4 hk4 E3 X3 Y3 U0 U1 HB3 hlt3
  obtain ⟨x0, x1, x2, x3, x4⟩ := Y4.out.cells
  go_wp2_with fail
  refine (heldEngine_calls _ _ _ _ G4.out.c).mono ?_
  rintro e w5 ⟨rfl, hb5⟩
  clear x0 x1 x2 x3 x4
  have E5 := Aside0.mk (E4.out.below hb5)
  have X5 : Aside0 (Box w5 w1.heap.size (.slice A0 pg5.length c0) (.slice A1 pg5.length c1) (.slice A2 0 c2)) := ⟨blk_below X4.out hb5⟩
  have Y5 : Aside0 (Box w5 w2.heap.size (.slice B0 5 d0) (.slice B1 5 d1) (.slice none 0 0)) := ⟨blk_below Y4.out hb5⟩
  have G5 := Aside0.mk (G4.out.below hb5)
  have HB5 := Aside0.mk (below_step HB4.out hb5)
  clear hb5 E4 X4 Y4 G4 HB4
  go_wp2_with fail
  refine (engNew _).mono ?_
  rintro e w6 ⟨C0, f0, C1, f1, m', rfl, hV0, hV1, hb6⟩
  have E6 := Aside0.mk (E5.out.below hb6)
  have X6 : Aside0 (Box w6 w1.heap.size (.slice A0 pg5.length c0) (.slice A1 pg5.length c1) (.slice A2 0 c2)) := ⟨blk_below X5.out hb6⟩
  have Y6 : Aside0 (Box w6 w2.heap.size (.slice B0 5 d0) (.slice B1 5 d1) (.slice none 0 0)) := ⟨blk_below Y5.out hb6⟩
  have G6 := Aside0.mk (G5.out.below hb6)
  have HB6 := Aside0.mk (below_step HB5.out hb6)
  have V6 := Aside0.mk (show Eng3 w6 w5.heap.size (fun k => True) (.slice C0 5 f0) (.slice C1 5 f1) (.slice none 0 0) pg5 pg5 from ⟨Kd.S_mono hV0 (fun _ _ => trivial), Kd.S_mono hV1 (fun _ _ => trivial), Kd.R_nil _ _ _ _ _⟩)
  clear hb6 E5 X5 Y5 G5 HB5 hV0 hV1
  obtain ⟨x0, x1, x2, x3, x4⟩ := X6.out.cells
  have hlt6 := blk_lt X6.out
  have hne6 : w6.heap.size ≠ w1.heap.size := by omega
  have hne6' : w1.heap.size ≠ w6.heap.size := by omega
  go_wp2_with fail
  have bel6 := Box.bel w6 (.slice C0 5 f0) (.slice C1 5 f1) (.slice none 0 0)
  refine (eqEngine_calls _ _ _ _ _ _ _ (V6.out.below bel6).c (E6.out.below bel6).c).mono ?_
  rintro e w7 ⟨rfl, hb7⟩
  clear x0 x1 x2 x3 x4
  have Y7 : Aside0 (Box w7 w2.heap.size (.slice B0 5 d0) (.slice B1 5 d1) (.slice none 0 0)) := ⟨blk_below (blk_below Y6.out bel6) hb7⟩
  have G7 := Aside0.mk ((G6.out.below bel6).below hb7)
  have HB7 := Aside0.mk (below_step (below_step HB6.out bel6) hb7)
  clear bel6 hb7 E6 X6 Y6 G6 HB6 V6 hlt6 hne6 hne6'
  obtain ⟨x0, x1, x2, x3, x4⟩ := Y7.out.cells
  go_wp2_with fail
  refine (heldEngine_calls _ _ _ _ G7.out.c).mono ?_
  rintro e w8 ⟨rfl, hb8⟩
  clear x0 x1 x2 x3 x4
  have HB8 := Aside0.mk (below_step HB7.out hb8)
  clear hb8 Y7 G7 HB7
  go_wp2
  go_ret
  exact ⟨rfl, HB8.out⟩
end Go.Proofs.Ytcefiblpnegepaa.Pr
