import Derived.Test.YtphnphmbfogmlaaGreatQFByq
import Derived.Test.YtphnphmbfogmlaaGreatQFPrM
import Derived.Test.YtphnphmbfogmlaaGreatQFRec
namespace Go.Proofs.YtphnphmbfogmlaaGreat.Pr
open Go.RowKit Go.PW Go.PL Go.PM Go.Proofs.YtphnphmbfogmlaaGreat.T
set_option linter.unusedSimpArgs false
set_option linter.unusedVariables false
def RI (w : World) (n m : Nat) (v : Value) (l : List Int) : Prop := Kd.R (Kd.int .i64) 3 w n (fun k => n ≤ k ∧ k < m) v l
theorem Qr {w : World} {n : Nat} {v : Value} {l : List Int} (h : Kd.R (Kd.int .i64) 3 w n (fun _ => True) v l) : RI w n w.heap.size v l := Kd.XZ (Kd.ZQ h) (fun k hk => ⟨hk.2.1, hk.2.2.1⟩)
theorem Ml {w : World} {n n' m : Nat} {v : Value} {l : List Int} (h : RI w n m v l) (hn : n' ≤ n) : RI w n' m v l := Kd.YY (Kd.XZ h (fun k hk => ⟨Nat.le_trans hn hk.1, hk.2⟩)) hn
theorem En {w : World} {n m : Nat} {v : Value} {l : List Int} (h : RI w n m v l) {p : Addr} (hp : p.block < n ∨ m ≤ p.block) (u : Value) : RI (w.setCell p u) n m v l := Kd.YZ h (fun k hk e => by subst e; omega) u
theorem NC {w : World} {n m : Nat} {v : Value} {l : List Int} (h : RI w n m v l) (o : Obj) : RI (w.alloc o) n m v l := Kd.Yp h o
theorem PT {w : World} {n m : Nat} {v : Value} {l : List Int} (h : RI w n m v l) : RI w.drew n m v l := Kd.YC h
theorem ND {w : World} {n m : Nat} {v : Value} {l : List Int} (h : RI w n m v l) (j : Nat) : RI (w.drewN j) n m v l := Kd.Y0 h _
theorem Eo {w : World} {n n' m : Nat} {v : Value} {l : List Int} (h : RI w n m v l) (hn : n' ≤ n) : Kd.R (Kd.int .i64) 3 w n' (fun _ => True) v l := Kd.YY (Kd.XZ h (fun _ _ => trivial)) hn
set_option maxHeartbeats 4000000 in
set_option maxRecDepth 100000 in
theorem VD.calls (Xu : Int) (Xy : Int) (Yg : Option Addr) (Yh : Nat) (Xm : List Int) (Zd : Int) (Zk : Int) (Vd : Int) (YU : Int) (ZI : Int) (ZA : Int) (Ve : Int) (Vf : Int) (a2 : Int) (r1 : Int) (r2 : Int) (r3 : List Int) (w : World) (hr0_2 : Kd.C (Kd.int .i64) w Yg Xm.length Xm) (hc0_2 : Xm.length ≤ Yh) (h : VD.f Xu Xy Xm Zd Zk Vd YU ZI ZA Ve Vf a2 = some (r1, r2, r3)) :
 Calls Tryz.prog 66 #[.agg #[.int .i64 Xu, .int .i64 Xy, .slice Yg Xm.length Yh], .agg #[.int .i64 Zd, .int .i64 Zk, .int .i64 Vd, .int .i64 YU, .int .i64 ZI, .int .i64 ZA, .int .i64 Ve, .int .i64 Vf], .int .i64 a2] w fun e w' => ∃ v2_ : Value, e = .returned (.agg #[.int .i64 r1, .int .i64 r2, v2_]) ∧ Kd.R (Kd.int .i64) 3 w' w.heap.size (fun _ => True) v2_ r3 ∧ Below w.heap.size w w' := by
 unfold VD.f at h
 obtain ⟨⟨t0, t1, t2⟩, hcp, h1⟩ := Option.bind_eq_some_iff.mp h; clear h
 dsimp only at h1
 have HCP := zz hcp; have HC := zz hr0_2; have HC0 := zz hc0_2; have H := zz h1; clear hcp hr0_2 hc0_2 h1
 by_cases hs : YU ≥ 0
 ·have HB0 := zz (Below.refl w.heap.size w)
  have HZ0 := zz (Nat.le_refl w.heap.size)
  go_enter Tryz.func66, Tryz.ntmps66
  have hsb : decide (0 ≤ YU) = true := decide_eq_true hs; clear hs; have h := H.out; rw [if_pos (of_decide_eq_true hsb), if_pos (of_decide_eq_true hsb)] at h
  by_cases hi : YU < (t2.length : Int)
  rotate_left
  ·rw [if_neg hi] at h
   exact absurd h (by simp)
  rw [if_pos hi] at h; simp only [Option.some.injEq, Prod.mk.injEq] at h; obtain ⟨rfl, rfl, rfl⟩ := h; have HI := zz hi; clear hi
  go_wp2_with fail
  refine (JC.calls Xu Xy _ _ Xm t0 t1 t2 _ (FP HC.out (bl3 _ _ _)) HC0.out HCP.out).mono ?_; rintro e w1 ⟨v, rfl, hR, hb⟩; obtain ⟨hc1, hf1⟩ := DU hb; have hz1 := hb.size
  (try simp at hz1)
  have HB1 : Aside0 (Below w.heap.size w w1) := ⟨Yn zb29 zb62 hb⟩
  have HZ1 := zz (HB1.out.size); have HT1 := zz hb; clear hb
  have hy1_0 : w.heap.size < w1.heap.size := (by omega)
  have hy1_1 : w.heap.size + 1 < w1.heap.size := (by omega)
  have hy1_2 : w.heap.size + 1 + 1 < w1.heap.size := (by omega)
  obtain ⟨A1, c1, rfl, hcc1, hC1⟩ := U0 hR
  have HRI : Aside0 (RI w1 (w.heap.size + 3) w1.heap.size (.slice A1 t2.length c1) t2) := ⟨Ml (Qr hR) zb36⟩
  obtain ⟨ad, rfl, hcell⟩ := Kd.Jn hC1 YU (of_decide_eq_true hsb) HI.out; obtain ⟨go, rfl⟩ := Kd.Xfp hR; have hgo := HRI.out.1 go rfl
  try simp at hgo
  obtain ⟨hy28, hz28⟩ := Kd.RP 0 hR YU (of_decide_eq_true hsb) HI.out
  have hgo1 : go < w1.heap.size := by omega
  have hgo2 : w.heap.size ≤ go := by omega
  have hgo3 : w.heap.size + 1 ≠ go := by omega
  have hgo4 : w.heap.size + 1 + 1 ≠ go := by omega
  have hgo5 : w1.heap.size ≠ go := by omega
  have hq1 := eq_true (show (0 : Int) ≤ YU from of_decide_eq_true hsb); have hq2 := eq_true HI.out; clear hR hC1 hcell
  go_wp2
  refine bodyPost_ret (v := .agg #[.int .i64 a2, .int .i64 t1, .slice (some ⟨go, 0, none⟩) t2.length c1]) (by simp [results, Tryz.results66, go_sem, *]) rfl ⟨_, rfl, ?_, ?_⟩
  ·refine Eo (n := w.heap.size + 3) (m := w1.heap.size) ?_ zb36
   repeat (first | (with_reducible exact (Kd.Xdj HRI.out YU ZA).1) | (exact (Kd.Xdj HRI.out YU ZA).1; done) | (refine En ?_ zb36 _) | (with_reducible refine NC ?_ _) | (with_reducible refine ND ?_ _) | (with_reducible refine PT ?_))
  ·repeat (first | (with_reducible exact HB1.out) | (with_reducible refine Xj ?_ _) | (with_reducible refine XN ?_ _) | (with_reducible refine Xx ?_) | (refine Xq ?_ (by have := HZ1.out; omega)))
 ·have hsb : decide (0 ≤ YU) = false := decide_eq_false hs
  have h := H.out; rw [if_neg hs] at h; clear hs
  by_cases hn : ZA = 0
  ·have hnb : (ZA == 0) = true := by simp [hn]
   rw [if_pos hn, if_pos (by omega)] at h; clear hn; simp only [Option.some.injEq, Prod.mk.injEq] at h; obtain ⟨rfl, rfl, rfl⟩ := h; have HB0 := zz (Below.refl w.heap.size w); have HZ0 := zz (Nat.le_refl w.heap.size)
   go_enter Tryz.func66, Tryz.ntmps66
   go_wp2_with fail
   refine (JC.calls Xu Xy _ _ Xm t0 t1 t2 _ (FP HC.out (bl3 _ _ _)) HC0.out HCP.out).mono ?_; rintro e w1 ⟨v, rfl, hR, hb⟩; obtain ⟨hc1, hf1⟩ := DU hb; have hz1 := hb.size
   (try simp at hz1)
   have HB1 : Aside0 (Below w.heap.size w w1) := ⟨Yn zb29 zb62 hb⟩
   have HZ1 := zz (HB1.out.size); have HT1 := zz hb; clear hb
   have hy1_0 : w.heap.size < w1.heap.size := (by omega)
   have hy1_1 : w.heap.size + 1 < w1.heap.size := (by omega)
   have hy1_2 : w.heap.size + 1 + 1 < w1.heap.size := (by omega)
   obtain ⟨A1, c1, rfl, hcc1, hC1⟩ := U0 hR
   have HRI : Aside0 (RI w1 (w.heap.size + 3) w1.heap.size (.slice A1 t2.length c1) t2) := ⟨Ml (Qr hR) zb36⟩
   clear hR hC1
   go_wp2_with (first | ((with_reducible refine Xp (N := 29) rfl ?_); refine Kd.Xb9 (Kd.int .i64) _ 3 rfl (N := 29) rfl 37 _ _ rfl 3 rfl rfl Tryz.underlying37 (.int .i64 0) 8 info3 rfl (by decide) (by omega) 0 (ok := fun _ => True) (okp := fun _ => True) rfl (fun _ hk => hk) trivial (by omega) (by omega) (Below.refl _ _) (Nat.le_refl _) ?_; intro v2 w2 ho4 hb hg_ hnew_; clear hg_ hnew_; obtain ⟨hc2, hf2⟩ := DU hb; have hz2 := hb.size; (try simp at hz2); have HB2 : Aside0 (Below w.heap.size w w2) := ⟨Yn (by repeat (first | (with_reducible exact HB1.out) | (with_reducible refine Xj ?_ _) | (with_reducible refine XN ?_ _) | (with_reducible refine Xx ?_) | (refine Xq ?_ (by have := HZ1.out; omega)))) (by have := HZ1.out; first | (simp; done) | (simp; omega) | omega) hb⟩; have HZ2 := zz (HB2.out.size); have HT2 := zz hb; clear hb; have hy2_0 : w.heap.size < w2.heap.size := (by omega); have hy2_1 : w.heap.size + 1 < w2.heap.size := (by omega); have hy2_2 : w.heap.size + 1 + 1 < w2.heap.size := (by omega); have hy2_3 : w1.heap.size < w2.heap.size := (by omega); obtain ⟨A2, c2, e2⟩ := Kd.Y2 ho4; simp only [List.length_replicate, Int.reduceToNat] at e2 ho4; subst e2; have HRI2 : Aside0 (RI w2 (w1.heap.size + 1) w2.heap.size (.slice A2 3 c2) (List.replicate 3 0)) := ⟨Ml (Qr ho4) zb36⟩; clear ho4))
   refine bodyPost_ret (v := .agg #[.int .i64 a2, .int .i64 ZA, .slice A2 3 c2]) (by simp [results, Tryz.results66, go_sem, *]) rfl ⟨_, rfl, ?_, ?_⟩
   ·refine Eo (n := w1.heap.size + 1) (m := w2.heap.size) ?_ zb36
    repeat (first | (with_reducible exact HRI2.out) | (exact HRI2.out; done) | (refine En ?_ zb36 _) | (with_reducible refine NC ?_ _) | (with_reducible refine ND ?_ _) | (with_reducible refine PT ?_))
   ·repeat (first | (with_reducible exact HB2.out) | (with_reducible refine Xj ?_ _) | (with_reducible refine XN ?_ _) | (with_reducible refine Xx ?_) | (refine Xq ?_ (by have := HZ2.out; omega)))
  ·have hnb : (ZA == 0) = false := by simp [hn]
   rw [if_neg hn] at h; clear hn; simp only [Option.some.injEq, Prod.mk.injEq] at h; obtain ⟨rfl, rfl, rfl⟩ := h; have HB0 := zz (Below.refl w.heap.size w); have HZ0 := zz (Nat.le_refl w.heap.size)
   go_enter Tryz.func66, Tryz.ntmps66
   go_wp2_with fail
   refine (JC.calls Xu Xy _ _ Xm t0 t1 t2 _ (FP HC.out (bl3 _ _ _)) HC0.out HCP.out).mono ?_; rintro e w1 ⟨v, rfl, hR, hb⟩; obtain ⟨hc1, hf1⟩ := DU hb; have hz1 := hb.size
   (try simp at hz1)
   have HB1 : Aside0 (Below w.heap.size w w1) := ⟨Yn zb29 zb62 hb⟩
   have HZ1 := zz (HB1.out.size); have HT1 := zz hb; clear hb
   have hy1_0 : w.heap.size < w1.heap.size := (by omega)
   have hy1_1 : w.heap.size + 1 < w1.heap.size := (by omega)
   have hy1_2 : w.heap.size + 1 + 1 < w1.heap.size := (by omega)
   obtain ⟨A1, c1, rfl, hcc1, hC1⟩ := U0 hR
   have HRI : Aside0 (RI w1 (w.heap.size + 3) w1.heap.size (.slice A1 t2.length c1) t2) := ⟨Ml (Qr hR) zb36⟩
   clear hR hC1
   go_wp2
   refine bodyPost_ret (v := .agg #[.int .i64 a2, .int .i64 ZA, .slice A1 t2.length c1]) (by simp [results, Tryz.results66, go_sem, *]) rfl ⟨_, rfl, ?_, ?_⟩
   ·refine Eo (n := w.heap.size + 3) (m := w1.heap.size) ?_ zb36
    repeat (first | (with_reducible exact HRI.out) | (exact HRI.out; done) | (refine En ?_ zb36 _) | (with_reducible refine NC ?_ _) | (with_reducible refine ND ?_ _) | (with_reducible refine PT ?_))
   ·repeat (first | (with_reducible exact HB1.out) | (with_reducible refine Xj ?_ _) | (with_reducible refine XN ?_ _) | (with_reducible refine Xx ?_) | (refine Xq ?_ (by have := HZ1.out; omega)))
end Go.Proofs.YtphnphmbfogmlaaGreat.Pr
