/- EngineNew makes its pages anew, disk and memory apart; and an engine is marked. -/
import Derived.Test.YtcefiblpnegepaaMarkPg
import Derived.Test.YtcefiblpnegepaaPrEN
namespace Go.Proofs.Ytcefiblpnegepaa.Pr
open Go.RowKit Go.Proofs.YtcefiblpnegepaaW.PrintWords Go.Proofs.YtcefiblpnegepaaW.PrintLast Go.Proofs.YtcefiblpnegepaaW.PrintMore
attribute [local go_sem] max2_int min2_int max_two min_two max_three min_three max_four min_four
set_option linter.unusedVariables false
set_option linter.unusedSimpArgs false
def pg5 : List S25 := [⟨0, 0, [0, 0, 0]⟩, ⟨0, 0, [0, 0, 0]⟩, ⟨0, 0, [0, 0, 0]⟩, ⟨0, 0, [0, 0, 0]⟩, ⟨0, 0, [0, 0, 0]⟩]
theorem newPages_f : impl_newPages.f 10 = some pg5 := by kernel_rfl
theorem l11Pages_f : spec_l11Pages.f 10 = some pg5 := by kernel_rfl
def ENpost (w : World) (e : Ending) (w' : World) : Prop := ∃ A0 c0 A1 c1 m, e = .returned (.agg #[.slice A0 5 c0, .slice A1 5 c1, .slice none 0 0, .int .i64 0, .bool false]) ∧ Kd.S k25 25 w' w.heap.size (fun k => k < m) (.slice A0 5 c0) pg5 ∧ Kd.S k25 25 w' w.heap.size (fun k => m ≤ k) (.slice A1 5 c1) pg5 ∧ Below w.heap.size w w'
set_option maxHeartbeats 8000000 in
set_option maxRecDepth 100000 in
theorem engNew (w : World) : Calls Try.prog 45 #[] w (ENpost w) := by
  go_enter Try.func45, Try.ntmps45
  go_wp2_with fail
  refine (impl_newPages.calls 10 pg5 _ newPages_f).mono ?_
  rintro e w1 ⟨v0, rfl, hS0, hb1⟩
  have BK1 := blk_below (blk_new _ _) hb1
  have HB1 := below_step (below_alloc (Below.refl w.heap.size w) _) hb1
  obtain ⟨A0, c0, e0⟩ := Kd.S_slice hS0
  subst e0
  have HS0 := Aside0.mk (Kd.S_lower (Kd.S_bound hS0) (Nat.le_trans (Nat.le_succ w.heap.size) (by simp)))
  have B1 := Aside0.mk BK1
  have H1 := Aside0.mk HB1
  clear hb1 BK1 HB1 hS0
  go_wp2_with fail
  refine (impl_newPages.calls 10 pg5 _ newPages_f).mono ?_
  rintro e w2 ⟨v1, rfl, hS1, hb2⟩
  obtain ⟨A1, c1, e1⟩ := Kd.S_slice hS1
  subst e1
  have BK2 := blk_below B1.out hb2
  have HB2 := below_step H1.out hb2
  have HSa := Kd.S_mono (Kd.S_below HS0.out hb2) (ok' := fun k => k < w1.heap.size) (fun k hk => hk.2.2.1)
  have HSb := Kd.S_mono (Kd.S_lower (Kd.S_bound hS1) H1.out.size) (ok' := fun k => w1.heap.size ≤ k) (fun k hk => hk.2.1)
  have hc0 : w2.cell? ⟨w.heap.size, 0, none⟩ = some (.slice none 0 0) := (blk_cell BK2 0).trans rfl
  have hc1 : w2.cell? ⟨w.heap.size, 1, none⟩ = some (.slice none 0 0) := (blk_cell BK2 1).trans rfl
  have hc2 : w2.cell? ⟨w.heap.size, 2, none⟩ = some (.slice none 0 0) := (blk_cell BK2 2).trans rfl
  have hc3 : w2.cell? ⟨w.heap.size, 3, none⟩ = some (.int .i64 0) := (blk_cell BK2 3).trans rfl
  have hc4 : w2.cell? ⟨w.heap.size, 4, none⟩ = some (.bool false) := (blk_cell BK2 4).trans rfl
  have hf0 := blk_frozen BK2 0
  have hf1 := blk_frozen BK2 1
  have hf2 := blk_frozen BK2 2
  have hf3 := blk_frozen BK2 3
  have hf4 := blk_frozen BK2 4
  have hu := Try.underlying52
  have KK := Aside0.mk BK2
  have SA := Aside0.mk HSa
  have SB := Aside0.mk HSb
  have BB := Aside0.mk HB2
  have Hm := Aside0.mk (Nat.le_refl w1.heap.size)
  clear BK2 HSa HSb HB2 hS1 hb2 HS0 B1 H1
  go_wp2
  refine bodyPost_ret (v := .agg #[.slice A0 5 c0, .slice A1 5 c1, .slice none 0 0, .int .i64 0, .bool false]) (by simp [results, Try.results45, go_sem, *, show pg5.length = 5 from rfl]) rfl ⟨A0, c0, A1, c1, w1.heap.size, rfl, ?_, ?_, ?_⟩
  · exact Kd.S_mono (Kd.S_far (p := ⟨w.heap.size, 4, none⟩) (Kd.S_far (p := ⟨w.heap.size, 3, none⟩) (Kd.S_far (p := ⟨w.heap.size, 2, none⟩) (Kd.S_far (p := ⟨w.heap.size, 1, none⟩) (Kd.S_far (p := ⟨w.heap.size, 0, none⟩) (Kd.S_types SA.out KK.out (by decide)) (fun _ hk => hk.2) _) (fun _ hk => hk.2) _) (fun _ hk => hk.2) _) (fun _ hk => hk.2) _) (fun _ hk => hk.2) _) (fun _ hk => hk.1)
  · exact Kd.S_mono (Kd.S_far (p := ⟨w.heap.size, 4, none⟩) (Kd.S_far (p := ⟨w.heap.size, 3, none⟩) (Kd.S_far (p := ⟨w.heap.size, 2, none⟩) (Kd.S_far (p := ⟨w.heap.size, 1, none⟩) (Kd.S_far (p := ⟨w.heap.size, 0, none⟩) (Kd.S_types SB.out KK.out (by decide)) (fun _ hk => hk.2) _) (fun _ hk => hk.2) _) (fun _ hk => hk.2) _) (fun _ hk => hk.2) _) (fun _ hk => hk.2) _) (fun _ hk => hk.1)
  · repeat (first | (with_reducible exact BB.out) | refine below_set ?_ (Nat.le_refl _))
set_option maxHeartbeats 8000000 in
set_option maxRecDepth 100000 in
theorem laws_markEngine.calls (k : Nat) (P0 P1 P2 : Nat → Prop) (v0 v1 v2 : Value) (l0 l1 : List S25) (l2 : List S41) (s : Int) (d : Bool) (a x1 x2 x3 : Int) (m0 m1 : List S25) (m2 : List S41) (w0 w : World) (hB : Below w0.heap.size w0 w)
    (h0 : Kd.S k25 25 w w0.heap.size P0 v0 l0) (h1 : Kd.S k25 25 w w0.heap.size P1 v1 l1) (h2 : Kd.R k41 41 w w0.heap.size P2 v2 l2)
    (hP0 : ∀ j, P0 j → j < w.heap.size) (hP1 : ∀ j, P1 j → j < w.heap.size) (hP2 : ∀ j, P2 j → j < w.heap.size) (h01 : ∀ j, P0 j → ¬ P1 j) (h02 : ∀ j, P0 j → ¬ P2 j) (h12 : ∀ j, P1 j → ¬ P2 j)
    (e0 : laws_markPageS.f k l0 a = some (x1, m0)) (e1 : laws_markPageS.f k l1 x1 = some (x2, m1)) (e2 : laws_markRecS.f k l2 x2 = some (x3, m2)) :
    Calls Try.prog 47 #[.agg #[v0, v1, v2, .int .i64 s, .bool d], .int .i64 a] w fun e w' => e = .returned (.int .i64 x3) ∧ Kd.S k25 25 w' w0.heap.size P0 v0 m0 ∧ Kd.S k25 25 w' w0.heap.size P1 v1 m1 ∧ Kd.R k41 41 w' w0.heap.size (fun j => P2 j ∨ w.heap.size ≤ j) v2 m2 ∧ Below w0.heap.size w0 w' ∧ Kept w w' (fun j => P0 j ∨ P1 j ∨ P2 j) := by
  have hsz := hB.size
  have H0 := Aside0.mk h0
  have H1 := Aside0.mk h1
  have H2 := Aside0.mk h2
  have HB := Aside0.mk hB
  have E0 := Aside0.mk e0
  have E1 := Aside0.mk e1
  have E2 := Aside0.mk e2
  have Q0 := Aside0.mk hP0
  have Q1 := Aside0.mk hP1
  have Q2 := Aside0.mk hP2
  have Q01 := Aside0.mk h01
  have Q02 := Aside0.mk h02
  have Q12 := Aside0.mk h12
  have hu := Try.underlying52
  clear h0 h1 h2 hB e0 e1 e2 hP0 hP1 hP2 h01 h02 h12
  go_enter Try.func47, Try.ntmps47
  go_wp2_with fail
  refine (laws_markPageS.calls k P0 v0 l0 a x1 m0 w0 _ (below_alloc HB.out _) (Kd.S_alloc H0.out _) E0.out).mono ?_
  rintro e w1 ⟨rfl, hs0, hb1, hk1⟩
  have BK1 := blk_kept (blk_new _ _) hk1 (fun hp => Nat.lt_irrefl _ (Q0.out _ hp))
  have K1 := Aside0.mk ((Kept.alloc (Kept.refl w (fun j => P0 j ∨ P1 j ∨ P2 j)) _).then_ hk1 (fun j hj => .inl (.inl hj)))
  have S1 := Aside0.mk (Kd.S_kept (Kd.S_alloc H1.out _) hk1 (fun j hj hp => Q01.out j hp hj))
  have R1 := Aside0.mk (Kd.R_kept (Kd.R_alloc H2.out _) hk1 (fun j hj hp => Q02.out j hp hj))
  have S0 := Aside0.mk hs0
  have B1 := Aside0.mk hb1
  have C1 := Aside0.mk BK1
  have hc0 : w1.cell? ⟨w.heap.size, 1, none⟩ = some v1 := (blk_cell BK1 1).trans rfl
  clear hs0 hb1 hk1 BK1
  go_wp2_with fail
  refine (laws_markPageS.calls k P1 v1 l1 x1 x2 m1 w0 _ B1.out S1.out E1.out).mono ?_
  rintro e w2 ⟨rfl, hs1, hb2, hk2⟩
  clear hc0
  have BK2 := blk_kept C1.out hk2 (fun hp => Nat.lt_irrefl _ (Q1.out _ hp))
  have K2 := Aside0.mk (K1.out.then_ hk2 (fun j hj => .inl (.inr (.inl hj))))
  have T0 := Aside0.mk (Kd.S_kept S0.out hk2 (fun j hj hp => Q01.out j hj hp))
  have R2 := Aside0.mk (Kd.R_kept R1.out hk2 (fun j hj hp => Q12.out j hp hj))
  have T1 := Aside0.mk hs1
  have B2 := Aside0.mk hb2
  have hc1 : w2.cell? ⟨w.heap.size, 2, none⟩ = some v2 := (blk_cell BK2 2).trans rfl
  clear hs1 hb2 hk2 BK2 S0 S1 R1 B1 C1 K1
  have hsz2 := K2.out.1
  go_wp2_with fail
  refine (laws_markRecS.calls k P2 v2 l2 x2 x3 m2 w0 _ B2.out R2.out E2.out).mono ?_
  rintro e w3 ⟨rfl, hs2, hb3, hk3⟩
  clear hc1
  go_wp2
  go_ret
  exact ⟨rfl, Kd.S_kept T0.out hk3 (fun j hj hp => Q02.out j hj hp), Kd.S_kept T1.out hk3 (fun j hj hp => Q12.out j hj hp), Kd.R_mono hs2 (fun j hj => hj.imp id (fun h => Nat.le_trans hsz2 h)), hb3, K2.out.then_ hk3 (fun j hj => .inl (.inr (.inr hj)))⟩
end Go.Proofs.Ytcefiblpnegepaa.Pr
