import Derived.Test.YtcefiblpnegepaaQByq
import Derived.Test.YtcefiblpnegepaaQEngA
import Derived.Test.YtcefiblpnegepaaQPrNew
namespace Go.Proofs.Ytcefiblpnegepaa.Pr
open Go.RowKit Go.Proofs.YtcefiblpnegepaaW.PrintWords Go.Proofs.YtcefiblpnegepaaW.PrintLast Go.Proofs.YtcefiblpnegepaaW.PrintMore
attribute [local go_sem] max2_int min2_int max_two min_two max_three min_three max_four min_four
set_option linter.unusedVariables false
set_option linter.unusedSimpArgs false
theorem keep_kept {w W w' : World} {g : Nat} {S : Nat → Prop} (h : KeepBut w W g none) (hk : Kept W w' S) (hS : ∀ j, S j → w.heap.size ≤ j) : KeepBut w w' g none :=
  ⟨Nat.le_trans h.1 hk.1, fun i hi hne hr => (hk.2 i (Nat.lt_of_lt_of_le hi h.1) (fun hs => by have := hS i hs; omega)).trans (h.2 i hi hne hr)⟩
theorem kept_of_keep {w w' : World} {g : Nat} (h : KeepBut w w' g none) : Kept w w' (fun j => j = g) := ⟨h.1, fun i hi hn => h.2 i hi hn (by simp)⟩
set_option maxHeartbeats 8000000 in
set_option maxRecDepth 100000 in
theorem spec_EngineNew.to (k : Nat) (r1 r2 : List S25) (r3 : List S41) (r4 : Int) (r5 : Bool) (w0 w : World) (hB : Below w0.heap.size w0 w)
    (h : spec_EngineNew.f k = some (r1, r2, r3, r4, r5)) : Calls Try.prog 44 #[] w (EngOne w0 w (fun _ => False) r1 r2 r3 r4 r5) := by
  have hu52 := Try.underlying52; have HB := Aside0.mk hB; have HZ := Aside0.mk hB.size
  unfold spec_EngineNew.f at h
  replace h := Option.bind_eq_some_iff.mp h; obtain ⟨t1, ht1, h⟩ := h; replace h := Option.bind_eq_some_iff.mp h; obtain ⟨t2, ht2, h⟩ := h; have A1_ := Aside0.mk ht1; have A2_ := Aside0.mk ht2; simp only [Option.some.injEq, Prod.mk.injEq] at h; obtain ⟨rfl, rfl, rfl, rfl, rfl⟩ := h; clear hB ht1 ht2
  go_enter Try.func44, Try.ntmps44
  go_wp2_with fail
  refine (spec_l11Pages.calls k t1 _ A1_.out).mono ?_; rintro e w1 ⟨u0, rfl, hS, hb⟩; have R1 := Aside0.mk (Kd.R_bound (Kd.S_R hS))
  have BQ1 : Aside0 (EBox w1 w.heap.size (.slice none 0 0) (.slice none 0 0) (.slice none 0 0) 0 false) := ⟨EBox.below (EBox.new w (.slice none 0 0) (.slice none 0 0) (.slice none 0 0) 0 false) hb⟩
  have LB1 := Aside0.mk (below_step (below_alloc HB.out (.cells #[.slice none 0 0, .slice none 0 0, .slice none 0 0, .int .i64 0, .bool false] 52)) hb); have LW1 := Aside0.mk (below_step (below_alloc (Below.refl w.heap.size w) (.cells #[.slice none 0 0, .slice none 0 0, .slice none 0 0, .int .i64 0, .bool false] 52)) hb); have hs1 := Aside0.mk (show w.heap.size + 1 ≤ w1.heap.size by have h_ := hb.size; simpa using h_); clear hS hb
  go_wp2_with fail
  refine (spec_l11Pages.calls k t2 _ A2_.out).mono ?_; rintro e w2 ⟨u1, rfl, hS, hb⟩; have R2 := Aside0.mk (Kd.R_bound (Kd.S_R hS)); have Q2 := Aside0.mk (Kd.R_below R1.out hb); have BQ2 := Aside0.mk (BQ1.out.below hb); have LB2 := Aside0.mk (below_step LB1.out hb); have LW2 := Aside0.mk (below_step LW1.out hb); have hs2 := Aside0.mk hb.size; have hu1 := Aside0.mk (Kd.R_slice (Kd.S_R hS)); have hu0 := Aside0.mk (Kd.R_slice R1.out); clear hS hb R1 BQ1 LB1 LW1; obtain ⟨⟨A0, c0, e0⟩⟩ := hu0; obtain ⟨⟨A1, c1, e1⟩⟩ := hu1; subst e0 e1
  go_wp2_with (first | ((with_reducible refine gate_dst (N := 3) rfl ?_); refine Kd.R_lit k41 (w0 := w2) _ 41 ?hg (N := 3) ?hd (xs := ([] : List S41)) (inner := []) (ok := fun _ => True) (okp := fun _ => True) ?hr ?hp (fun _ hk => hk) trivial (Below.refl w2.heap.size w2) (Nat.le_refl _) (by simp) ?_; (case hd => rfl); (case hg => rfl); (case hr => exact zb20); (case hp => exact (Reps.none _ _)); intro v3 w3 ho3 hb hg3 hat3; have R3 := Aside0.mk (Kd.R_tight rfl ho3); have hb3 := Aside0.mk (Kd.R_base ho3); have hl3 := Aside0.mk (Kd.R_lt ho3); have P3 := Aside0.mk (Kd.R_below R2.out hb); have Q3 := Aside0.mk (Kd.R_below Q2.out hb); have BQ3 := Aside0.mk (BQ2.out.below hb); have LB3 := Aside0.mk (below_step LB2.out hb); have LW3 := Aside0.mk (below_step LW2.out hb); have hs3 := Aside0.mk hb.size; obtain ⟨A2, c2, e2⟩ := Kd.R_slice ho3; subst e2; clear ho3 hb hg3 hat3 R2 Q2 BQ2 LB2 LW2; obtain ⟨y0, y1, y2, y3, y4⟩ := BQ3.out.cells; obtain ⟨f0, f1, f2, f3, f4⟩ := BQ3.out.frozens))
  have EN : EngA w0 w3 (fun j => w.heap.size + 1 ≤ j ∧ j < w1.heap.size) (fun j => w1.heap.size ≤ j ∧ j < w2.heap.size) (.slice A0 t1.length c0) (.slice A1 t2.length c1) (.slice A2 ([] : List S41).length c2) t1 t2 [] := ⟨Kd.R_mono (Kd.R_lower Q3.out (by have := HZ.out; simp; omega)) (fun j hj => ⟨by have h_ := hj.2.1; simpa using h_, hj.2.2.1⟩), Kd.R_mono (Kd.R_lower P3.out (by have := HZ.out; have := hs1.out; omega)) (fun j hj => ⟨hj.2.1, hj.2.2.1⟩), Kd.R_lower R3.out (by have := HZ.out; have := hs1.out; have := hs2.out; omega), fun j hj => ⟨by have := hs2.out; have := hs3.out; omega, fun e_ => by have h1 := hb3.out j e_.symm; have := hs2.out; omega⟩, fun j hj => ⟨by have := hs3.out; omega, fun e_ => by have h1 := hb3.out j e_.symm; omega⟩, fun j hj hp => by omega⟩
  have SN : ∀ j, PE (fun j => w.heap.size + 1 ≤ j ∧ j < w1.heap.size) (fun j => w1.heap.size ≤ j ∧ j < w2.heap.size) (.slice A2 ([] : List S41).length c2) j → w.heap.size + 1 ≤ j := by
    rintro j (h_ | h_ | h_)
    · exact h_.1
    · have := hs1.out; omega
    · have h1 := hb3.out j h_.symm; have := hs1.out; have := hs2.out; omega
  refine bodyPost_ret (v := .agg #[.slice A0 t1.length c0, .slice A1 t2.length c1, .slice A2 ([] : List S41).length c2, .int .i64 0, .bool false]) (by simp [results, Try.results44, go_sem, *]) rfl ⟨A0, c0, A1, c1, A2, c2, rfl, _, _, EN.far5 (fun h_ => by have := SN _ h_; omega), fun j hj => .inr (Nat.le_of_succ_le (SN j hj)), ?_, ?_⟩
  · exact (below_set (below_set (below_set (below_set (below_set LB3.out HZ.out) HZ.out) HZ.out) HZ.out) HZ.out)
  · exact ((((((Kept.of_below LW3.out (fun _ => False)).setCell (p := ⟨w.heap.size, 0, none⟩) (.inr (Nat.le_refl _)) _).setCell (p := ⟨w.heap.size, 1, none⟩) (.inr (Nat.le_refl _)) _).setCell (p := ⟨w.heap.size, 2, none⟩) (.inr (Nat.le_refl _)) _).setCell (p := ⟨w.heap.size, 3, none⟩) (.inr (Nat.le_refl _)) _).setCell (p := ⟨w.heap.size, 4, none⟩) (.inr (Nat.le_refl _)) _)
end Go.Proofs.Ytcefiblpnegepaa.Pr
