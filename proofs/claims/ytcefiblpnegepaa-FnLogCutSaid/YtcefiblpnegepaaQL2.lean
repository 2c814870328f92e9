import Derived.Test.YtcefiblpnegepaaQByq
import Derived.Test.YtcefiblpnegepaaQPrM
import Derived.Test.YtcefiblpnegepaaQRd
namespace Go.Proofs.Ytcefiblpnegepaa.Pr
open Go.RowKit Go.Proofs.YtcefiblpnegepaaW.PrintWords Go.Proofs.YtcefiblpnegepaaW.PrintLast Go.Proofs.YtcefiblpnegepaaW.PrintMore Go.Proofs.Ytcefiblpnegepaa.T
set_option linter.unusedSimpArgs false
set_option linter.unusedVariables false
def RI (w : World) (n m : Nat) (v : Value) (l : List Int) : Prop := Kd.R (Kd.int .i64) 3 w n (fun k => n ≤ k ∧ k < m) v l
theorem RI_of {w : World} {n : Nat} {v : Value} {l : List Int} (h : Kd.R (Kd.int .i64) 3 w n (fun _ => True) v l) : RI w n w.heap.size v l := Kd.R_mono (Kd.R_bound h) (fun k hk => ⟨hk.2.1, hk.2.2.1⟩)
theorem RI_lower {w : World} {n n' m : Nat} {v : Value} {l : List Int} (h : RI w n m v l) (hn : n' ≤ n) : RI w n' m v l := Kd.R_lower (Kd.R_mono h (fun k hk => ⟨Nat.le_trans hn hk.1, hk.2⟩)) hn
theorem RI_set {w : World} {n m : Nat} {v : Value} {l : List Int} (h : RI w n m v l) {p : Addr} (hp : p.block < n ∨ m ≤ p.block) (u : Value) : RI (w.setCell p u) n m v l := Kd.R_far h (fun k hk e => by subst e; omega) u
theorem RI_alloc {w : World} {n m : Nat} {v : Value} {l : List Int} (h : RI w n m v l) (o : Obj) : RI (w.alloc o) n m v l := Kd.R_alloc h o
theorem RI_drew {w : World} {n m : Nat} {v : Value} {l : List Int} (h : RI w n m v l) : RI w.drew n m v l := Kd.R_drew h
theorem RI_drewN {w : World} {n m : Nat} {v : Value} {l : List Int} (h : RI w n m v l) (j : Nat) : RI (w.drewN j) n m v l := Kd.R_drewN h _
theorem RI_new {w : World} {n n' m : Nat} {v : Value} {l : List Int} (h : RI w n m v l) (hn : n' ≤ n) : Kd.R (Kd.int .i64) 3 w n' (fun _ => True) v l := Kd.R_lower (Kd.R_mono h (fun _ _ => trivial)) hn
set_option maxHeartbeats 4000000 in
set_option maxRecDepth 100000 in
theorem spec_l2Do.calls (a0_0 : Int) (a0_1 : Int) (A0_2 : Option Addr) (c0_2 : Nat) (l0_2 : List Int) (a1_0 : Int) (a1_1 : Int) (a1_2 : Int) (a1_3 : Int) (a1_4 : Int) (a1_5 : Int) (a1_6 : Int) (a1_7 : Int) (a2 : Int) (r1 : Int) (r2 : Int) (r3 : List Int) (w : World) (hr0_2 : Kd.C (Kd.int .i64) w A0_2 l0_2.length l0_2) (hc0_2 : l0_2.length ≤ c0_2) (h : spec_l2Do.f a0_0 a0_1 l0_2 a1_0 a1_1 a1_2 a1_3 a1_4 a1_5 a1_6 a1_7 a2 = some (r1, r2, r3)) :
    Calls Try.prog 103 #[.agg #[.int .i64 a0_0, .int .i64 a0_1, .slice A0_2 l0_2.length c0_2], .agg #[.int .i64 a1_0, .int .i64 a1_1, .int .i64 a1_2, .int .i64 a1_3, .int .i64 a1_4, .int .i64 a1_5, .int .i64 a1_6, .int .i64 a1_7], .int .i64 a2] w fun e w' => ∃ v2_ : Value, e = .returned (.agg #[.int .i64 r1, .int .i64 r2, v2_]) ∧ Kd.R (Kd.int .i64) 3 w' w.heap.size (fun _ => True) v2_ r3 ∧ Below w.heap.size w w' := by
  unfold spec_l2Do.f at h
  obtain ⟨⟨t0, t1, t2⟩, hcp, h1⟩ := Option.bind_eq_some_iff.mp h; clear h
  dsimp only at h1
  have HCP := Aside0.mk hcp; have HC := Aside0.mk hr0_2; have HC0 := Aside0.mk hc0_2; have H := Aside0.mk h1; clear hcp hr0_2 hc0_2 h1
  by_cases hs : a1_3 ≥ 0
  · have HB0 := Aside0.mk (Below.refl w.heap.size w)
    have HZ0 := Aside0.mk (Nat.le_refl w.heap.size)
    go_enter Try.func103, Try.ntmps103
    have hsb : decide (0 ≤ a1_3) = true := decide_eq_true hs; clear hs; have h := H.out; rw [if_pos (of_decide_eq_true hsb), if_pos (of_decide_eq_true hsb)] at h
    by_cases hi : a1_3 < (t2.length : Int)
    rotate_left
    · rw [if_neg hi] at h
      exact absurd h (by simp)
    rw [if_pos hi] at h; simp only [Option.some.injEq, Prod.mk.injEq] at h; obtain ⟨rfl, rfl, rfl⟩ := h; have HI := Aside0.mk hi; clear hi
    go_wp2_with fail
    refine (spec_l1Copy.calls a0_0 a0_1 _ _ l0_2 t0 t1 t2 _ (CI_below HC.out (bl3 _ _ _)) HC0.out HCP.out).mono ?_; rintro e w1 ⟨v, rfl, hR, hb⟩; obtain ⟨hc1, hf1⟩ := bcell hb; have hz1 := hb.size
    (try simp at hz1)
    have HB1 : Aside0 (Below w.heap.size w w1) := ⟨below_then zb53 zb99 hb⟩
    have HZ1 := Aside0.mk (HB1.out.size); have HT1 := Aside0.mk hb; clear hb
    have hy1_0 : w.heap.size < w1.heap.size := (by omega)
    have hy1_1 : w.heap.size + 1 < w1.heap.size := (by omega)
    have hy1_2 : w.heap.size + 1 + 1 < w1.heap.size := (by omega)
    obtain ⟨A1, c1, rfl, hcc1, hC1⟩ := NewI_reads hR
    have HRI : Aside0 (RI w1 (w.heap.size + 3) w1.heap.size (.slice A1 t2.length c1) t2) := ⟨RI_lower (RI_of hR) zb58⟩
    obtain ⟨ad, rfl, hcell⟩ := Kd.at_int hC1 a1_3 (of_decide_eq_true hsb) HI.out; obtain ⟨go, rfl⟩ := Kd.R_head hR; have hgo := HRI.out.1 go rfl
    try simp at hgo
    obtain ⟨hy28, hz28⟩ := Kd.R_celln 0 hR a1_3 (of_decide_eq_true hsb) HI.out
    have hgo1 : go < w1.heap.size := by omega
    have hgo2 : w.heap.size ≤ go := by omega
    have hgo3 : w.heap.size + 1 ≠ go := by omega
    have hgo4 : w.heap.size + 1 + 1 ≠ go := by omega
    have hgo5 : w1.heap.size ≠ go := by omega
    have hq1 := eq_true (show (0 : Int) ≤ a1_3 from of_decide_eq_true hsb); have hq2 := eq_true HI.out; clear hR hC1 hcell
    go_wp2
    refine bodyPost_ret (v := .agg #[.int .i64 a2, .int .i64 t1, .slice (some ⟨go, 0, none⟩) t2.length c1]) (by simp [results, Try.results103, go_sem, *]) rfl ⟨_, rfl, ?_, ?_⟩
    · refine RI_new (n := w.heap.size + 3) (m := w1.heap.size) ?_ zb58
      repeat (first | (with_reducible exact (Kd.R_put HRI.out a1_3 a1_5).1) | (exact (Kd.R_put HRI.out a1_3 a1_5).1; done) | (refine RI_set ?_ zb58 _) | (with_reducible refine RI_alloc ?_ _) | (with_reducible refine RI_drewN ?_ _) | (with_reducible refine RI_drew ?_))
    · repeat (first | (with_reducible exact HB1.out) | (with_reducible refine below_alloc ?_ _) | (with_reducible refine pw_below_drewN ?_ _) | (with_reducible refine below_drew ?_) | (refine below_set ?_ (by have := HZ1.out; omega)))
  · have hsb : decide (0 ≤ a1_3) = false := decide_eq_false hs
    have h := H.out; rw [if_neg hs] at h; clear hs
    by_cases hn : a1_5 = 0
    · have hnb : (a1_5 == 0) = true := by simp [hn]
      rw [if_pos hn, if_pos (by omega)] at h; clear hn; simp only [Option.some.injEq, Prod.mk.injEq] at h; obtain ⟨rfl, rfl, rfl⟩ := h; have HB0 := Aside0.mk (Below.refl w.heap.size w); have HZ0 := Aside0.mk (Nat.le_refl w.heap.size)
      go_enter Try.func103, Try.ntmps103
      go_wp2_with fail
      refine (spec_l1Copy.calls a0_0 a0_1 _ _ l0_2 t0 t1 t2 _ (CI_below HC.out (bl3 _ _ _)) HC0.out HCP.out).mono ?_; rintro e w1 ⟨v, rfl, hR, hb⟩; obtain ⟨hc1, hf1⟩ := bcell hb; have hz1 := hb.size
      (try simp at hz1)
      have HB1 : Aside0 (Below w.heap.size w w1) := ⟨below_then zb53 zb99 hb⟩
      have HZ1 := Aside0.mk (HB1.out.size); have HT1 := Aside0.mk hb; clear hb
      have hy1_0 : w.heap.size < w1.heap.size := (by omega)
      have hy1_1 : w.heap.size + 1 < w1.heap.size := (by omega)
      have hy1_2 : w.heap.size + 1 + 1 < w1.heap.size := (by omega)
      obtain ⟨A1, c1, rfl, hcc1, hC1⟩ := NewI_reads hR
      have HRI : Aside0 (RI w1 (w.heap.size + 3) w1.heap.size (.slice A1 t2.length c1) t2) := ⟨RI_lower (RI_of hR) zb58⟩
      clear hR hC1
      go_wp2_with (first | ((with_reducible refine gate_dst (N := 29) rfl ?_); refine Kd.R_make (Kd.int .i64) _ 3 rfl (N := 29) rfl 23 _ _ rfl 3 rfl rfl Try.underlying23 (.int .i64 0) 8 info3 rfl (by decide) (by omega) 0 (ok := fun _ => True) (okp := fun _ => True) rfl (fun _ hk => hk) trivial (by omega) (by omega) (Below.refl _ _) (Nat.le_refl _) ?_; intro v2 w2 ho4 hb hg_ hnew_; clear hg_ hnew_; obtain ⟨hc2, hf2⟩ := bcell hb; have hz2 := hb.size; (try simp at hz2); have HB2 : Aside0 (Below w.heap.size w w2) := ⟨below_then (by repeat (first | (with_reducible exact HB1.out) | (with_reducible refine below_alloc ?_ _) | (with_reducible refine pw_below_drewN ?_ _) | (with_reducible refine below_drew ?_) | (refine below_set ?_ (by have := HZ1.out; omega)))) (by have := HZ1.out; first | (simp; done) | (simp; omega) | omega) hb⟩; have HZ2 := Aside0.mk (HB2.out.size); have HT2 := Aside0.mk hb; clear hb; have hy2_0 : w.heap.size < w2.heap.size := (by omega); have hy2_1 : w.heap.size + 1 < w2.heap.size := (by omega); have hy2_2 : w.heap.size + 1 + 1 < w2.heap.size := (by omega); have hy2_3 : w1.heap.size < w2.heap.size := (by omega); obtain ⟨A2, c2, e2⟩ := Kd.R_slice ho4; simp only [List.length_replicate, Int.reduceToNat] at e2 ho4; subst e2; have HRI2 : Aside0 (RI w2 (w1.heap.size + 1) w2.heap.size (.slice A2 3 c2) (List.replicate 3 0)) := ⟨RI_lower (RI_of ho4) zb58⟩; clear ho4))
      refine bodyPost_ret (v := .agg #[.int .i64 a2, .int .i64 a1_5, .slice A2 3 c2]) (by simp [results, Try.results103, go_sem, *]) rfl ⟨_, rfl, ?_, ?_⟩
      · refine RI_new (n := w1.heap.size + 1) (m := w2.heap.size) ?_ zb58
        repeat (first | (with_reducible exact HRI2.out) | (exact HRI2.out; done) | (refine RI_set ?_ zb58 _) | (with_reducible refine RI_alloc ?_ _) | (with_reducible refine RI_drewN ?_ _) | (with_reducible refine RI_drew ?_))
      · repeat (first | (with_reducible exact HB2.out) | (with_reducible refine below_alloc ?_ _) | (with_reducible refine pw_below_drewN ?_ _) | (with_reducible refine below_drew ?_) | (refine below_set ?_ (by have := HZ2.out; omega)))
    · have hnb : (a1_5 == 0) = false := by simp [hn]
      rw [if_neg hn] at h; clear hn; simp only [Option.some.injEq, Prod.mk.injEq] at h; obtain ⟨rfl, rfl, rfl⟩ := h; have HB0 := Aside0.mk (Below.refl w.heap.size w); have HZ0 := Aside0.mk (Nat.le_refl w.heap.size)
      go_enter Try.func103, Try.ntmps103
      go_wp2_with fail
      refine (spec_l1Copy.calls a0_0 a0_1 _ _ l0_2 t0 t1 t2 _ (CI_below HC.out (bl3 _ _ _)) HC0.out HCP.out).mono ?_; rintro e w1 ⟨v, rfl, hR, hb⟩; obtain ⟨hc1, hf1⟩ := bcell hb; have hz1 := hb.size
      (try simp at hz1)
      have HB1 : Aside0 (Below w.heap.size w w1) := ⟨below_then zb53 zb99 hb⟩
      have HZ1 := Aside0.mk (HB1.out.size); have HT1 := Aside0.mk hb; clear hb
      have hy1_0 : w.heap.size < w1.heap.size := (by omega)
      have hy1_1 : w.heap.size + 1 < w1.heap.size := (by omega)
      have hy1_2 : w.heap.size + 1 + 1 < w1.heap.size := (by omega)
      obtain ⟨A1, c1, rfl, hcc1, hC1⟩ := NewI_reads hR
      have HRI : Aside0 (RI w1 (w.heap.size + 3) w1.heap.size (.slice A1 t2.length c1) t2) := ⟨RI_lower (RI_of hR) zb58⟩
      clear hR hC1
      go_wp2
      refine bodyPost_ret (v := .agg #[.int .i64 a2, .int .i64 a1_5, .slice A1 t2.length c1]) (by simp [results, Try.results103, go_sem, *]) rfl ⟨_, rfl, ?_, ?_⟩
      · refine RI_new (n := w.heap.size + 3) (m := w1.heap.size) ?_ zb58
        repeat (first | (with_reducible exact HRI.out) | (exact HRI.out; done) | (refine RI_set ?_ zb58 _) | (with_reducible refine RI_alloc ?_ _) | (with_reducible refine RI_drewN ?_ _) | (with_reducible refine RI_drew ?_))
      · repeat (first | (with_reducible exact HB1.out) | (with_reducible refine below_alloc ?_ _) | (with_reducible refine pw_below_drewN ?_ _) | (with_reducible refine below_drew ?_) | (refine below_set ?_ (by have := HZ1.out; omega)))
end Go.Proofs.Ytcefiblpnegepaa.Pr
