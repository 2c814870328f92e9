import Derived.Test.YtcefiblpnegepaaQBByq
import Derived.Test.YtcefiblpnegepaaQBSh
import Derived.Test.YtcefiblpnegepaaQBL21F
namespace Go.Proofs.Ytcefiblpnegepaa.Pr
open Go.RowKit Go.PW Go.PL Go.PM
attribute [local go_sem] Y3 Y4 YV YW Yk Yl Y5 Y6
set_option linter.unusedVariables false
set_option linter.unusedSimpArgs false
def Zb.l0 : Nat → List S25 → List S25 → List S41 → Int → Bool → Int → Int → Option (List S25 × List S25 × List S41 × Int × Bool)
 | 0, _, _, _, _, _, _, _ => none
 | k + 1, l0, l1, l2, a3, a4, st, i => if i < st then ((Yy.f k l2).bind fun n => if n > 0 then ((Zj.f k l0 l1 l2 a3 a4 n).bind fun x => Zb.l0 k x.1 x.2.1 x.2.2.1 x.2.2.2.1 x.2.2.2.2 st (wrap64 (i + 1))) else some (l0, l1, l2, a3, a4)) else some (l0, l1, l2, a3, a4)
def Zb.f (k : Nat) (l0 l1 : List S25) (l2 : List S41) (a3 : Int) (a4 : Bool) (st : Int) : Option (List S25 × List S25 × List S41 × Int × Bool × Bool) := (Yn.f k l0 l2).bind fun t => (Zb.l0 k l0 t l2 a3 a4 st 0).bind fun y => (Yy.f k y.2.2.1).bind fun n => if n > 0 then ((X4.f k y.1).bind fun c => some (y.1, c, y.2.2.1, y.2.2.2.1, y.2.2.2.2, false)) else some (y.1, y.2.1, y.2.2.1, y.2.2.2.1, false, true)
def Zb.T5 : Bool × List (List Nat × List Nat) := (true, [([], []), ([], []), ([1], [1]), ([2], [2]), ([0, 3, 3], [0, 3]), ([4, 4, 0, 1, 2, 3, 4], [4])])
def Zb.B5 : List Nat := [0, 0, 2, 6, 15, 31]
theorem Zb.tab5 : JG .any (opsOf Try.f139 5) = Zb.T5 := by kernel_rfl
theorem Zb.Xty : Jh Zb.T5.2 Zb.B5 = true := by kernel_rfl
set_option maxHeartbeats 8000000 in
set_option maxRecDepth 100000 in
theorem Zb.to (k : Nat) (PD PM : Nat → Prop) (v0 v1 v2 : Value) (l0 l1 : List S25) (l2 : List S41) (a3 : Int) (a4 : Bool) (st : Int) (r1 r2 : List S25) (r3 : List S41) (r4 : Int) (r5 r6 : Bool) (w0 w : World) (hB : Below w0.heap.size w0 w) (hE : VG w0 w PD PM v0 v1 v2 l0 l1 l2)
 (h : Zb.f k l0 l1 l2 a3 a4 st = some (r1, r2, r3, r4, r5, r6)) :
 Calls Try.prog 139 #[.agg #[v0, v1, v2, .int .i64 a3, .bool a4], .int .i64 st] w (WG w0 w (PE PD PM v2) r1 r2 r3 r4 r5 r6) := by
 obtain ⟨A0, c0, e0⟩ := Kd.Xx hE.d; obtain ⟨A1, c1, e1⟩ := Kd.Xx hE.m; obtain ⟨A2, c2, e2⟩ := Kd.Xx hE.l; subst e0 e1 e2; have HE := zz hE; have HB := zz hB; have HZ := zz hB.size; have HZ1 := zz (Nat.le_trans hB.size (Nat.le_succ _)); have hu52 := Try.underlying52
 have nE : ¬ PE PD PM (.slice A2 l2.length c2) w.heap.size := fun h => Nat.lt_irrefl _ (hE.lt _ h)
 have nQ : ¬ PE PD PM (.slice A2 l2.length c2) (w.heap.size + 1) := fun h => by have := hE.lt _ h; omega
 clear hE hB
 unfold Zb.f at h
 replace h := Option.bind_eq_some_iff.mp h; obtain ⟨t, ht, h⟩ := h; have A0_ := zz ht; replace h := Option.bind_eq_some_iff.mp h; obtain ⟨⟨z1, z2, z3, z4, z5⟩, hz, h⟩ := h; have A1_ := zz hz; replace h := Option.bind_eq_some_iff.mp h; obtain ⟨n9, hn9, h⟩ := h; have A9_ := zz hn9; have H9 := zz h; clear ht hz hn9 h
 go_enter Try.func139, Try.ntmps139
 go_wp2_with fail
 have E0 := zz (HE.out.below (Xd (Xd (Below.refl w.heap.size w) (.cells #[.slice A0 l0.length c0, .slice A1 l1.length c1, .slice A2 l2.length c2, .int .i64 a3, .bool a4] 52)) (.cells #[.slice none 0 0, .slice none 0 0, .slice none 0 0, .int .i64 0, .bool false] 52)))
 have BE0 : Aside0 (Ym ((w.alloc (.cells #[.slice A0 l0.length c0, .slice A1 l1.length c1, .slice A2 l2.length c2, .int .i64 a3, .bool a4] 52)).alloc (.cells #[.slice none 0 0, .slice none 0 0, .slice none 0 0, .int .i64 0, .bool false] 52)) w.heap.size (.slice A0 l0.length c0) (.slice A1 l1.length c1) (.slice A2 l2.length c2) a3 a4) := ⟨XY (Ym.new _ _ _ _ _ _) _⟩
 have BQ0 : Aside0 (Ym ((w.alloc (.cells #[.slice A0 l0.length c0, .slice A1 l1.length c1, .slice A2 l2.length c2, .int .i64 a3, .bool a4] 52)).alloc (.cells #[.slice none 0 0, .slice none 0 0, .slice none 0 0, .int .i64 0, .bool false] 52)) (w.heap.size + 1) (.slice none 0 0) (.slice none 0 0) (.slice none 0 0) 0 false) := ⟨zb37⟩
 have LB0 := zz (Xd (Xd HB.out (.cells #[.slice A0 l0.length c0, .slice A1 l1.length c1, .slice A2 l2.length c2, .int .i64 a3, .bool a4] 52)) (.cells #[.slice none 0 0, .slice none 0 0, .slice none 0 0, .int .i64 0, .bool false] 52)); have LK0 := zz (((Kept.refl w (PE PD PM (.slice A2 l2.length c2))).alloc (.cells #[.slice A0 l0.length c0, .slice A1 l1.length c1, .slice A2 l2.length c2, .int .i64 a3, .bool a4] 52)).alloc (.cells #[.slice none 0 0, .slice none 0 0, .slice none 0 0, .int .i64 0, .bool false] 52)); clear HB; refine (Yn.to k A0 c0 l0 A2 c2 l2 t _ (Kd.Xi E0.out.d).2.2 (Kd.Xi E0.out.d).2.1 (Kd.Xi E0.out.l).2.2 (Kd.Xi E0.out.l).2.1 A0_.out).mono ?_; rintro e w1 ⟨v7, rfl, hR, hb⟩; obtain ⟨A7, c7, e7⟩ := Kd.Xx hR; subst e7; have R1 := zz (Kd.Zv hR); have hsb := zz (show w.heap.size + 2 ≤ w1.heap.size by have h_ := hb.size; simpa using h_); have E1 := zz (E0.out.below hb); have BE1 := zz (BE0.out.below hb); have BQ1 := zz (BQ0.out.below hb); have LB1 := zz (Xe LB0.out hb); have LK1 := zz (LK0.out.below hb); clear hb E0 BE0 BQ0 LB0 LK0; clear hR
 have EM : VG w0 w1 PD (fun j => w.heap.size + 2 ≤ j ∧ j < w1.heap.size) (.slice A0 l0.length c0) (.slice A7 t.length c7) (.slice A2 l2.length c2) l0 t l2 := ⟨E1.out.d, Kd.XN (Kd.XT R1.out (by have h_ := HZ.out; simp; omega)) (fun j hj => ⟨by have h_ := hj.2.1; simpa using h_, hj.2.2.1⟩), E1.out.l, E1.out.pd, fun j hj => ⟨hj.2, fun e_ => by have h1 := HE.out.lt j (.inr (.inr e_)); omega⟩, fun j hj hp => by have h1 := HE.out.lt j (.inl hj); omega⟩
 have nE1 : ¬ PE PD (fun j => w.heap.size + 2 ≤ j ∧ j < w1.heap.size) (.slice A2 l2.length c2) w.heap.size := by
  rintro (h_ | h_ | h_)
  ·exact nE (.inl h_)
  ·omega
  ·exact nE (.inr (.inr h_))
 have nQ1 : ¬ PE PD (fun j => w.heap.size + 2 ≤ j ∧ j < w1.heap.size) (.slice A2 l2.length c2) (w.heap.size + 1) := by
  rintro (h_ | h_ | h_)
  ·exact nQ (.inl h_)
  ·omega
  ·exact nQ (.inr (.inr h_))
 obtain ⟨P, hP⟩ : ∃ P_, PE PD PM (.slice A2 l2.length c2) = P_ := ⟨_, rfl⟩
 have SP : Aside0 (∀ j, PE PD (fun j => w.heap.size + 2 ≤ j ∧ j < w1.heap.size) (.slice A2 l2.length c2) j → P j ∨ w.heap.size ≤ j) := ⟨by
  rintro j (h_ | h_ | h_)
  ·exact .inl (hP ▸ .inl h_)
  ·exact .inr (by omega)
  ·exact .inl (hP ▸ .inr (.inr h_))⟩
 rw [hP] at LK1 ⊢; have HP := zz hP; clear hP; have E2 := zz (EM.far nE1 1 (.slice A7 t.length c7))
 have BE2 : Aside0 (Ym (w1.setCell ⟨w.heap.size, 1, none⟩ (.slice A7 t.length c7)) w.heap.size (.slice A0 l0.length c0) (.slice A7 t.length c7) (.slice A2 l2.length c2) a3 a4) := ⟨X9 BE1.out 1 (.slice A7 t.length c7) rfl⟩
 have BQ2 := zz (BQ1.out.far (show w.heap.size + 1 ≠ w.heap.size by omega) 1 (.slice A7 t.length c7)); have LB2 := zz (Xc (g := w.heap.size) (j := 1) (v := .slice A7 t.length c7) LB1.out HZ.out); have LK2 := zz (LK1.out.setCell (p := ⟨w.heap.size, 1, none⟩) (.inr (Nat.le_refl _)) (.slice A7 t.length c7)); obtain ⟨x0, x1, x2, x3, x4⟩ := BE1.out.cells; obtain ⟨k0, k1, k2, k3, k4⟩ := BE1.out.XC; clear E1 BE1 BQ1 LB1 LK1 EM R1
 go_wp2
 clear x0 x1 x2 x3 x4 k0 k1 k2 k3 k4
 go_loopg [6] k (fun kq v6 w' => ∃ (x6 : Int) (A0 : Option Addr) (c0 : Nat) (A1 : Option Addr) (c1 : Nat) (A2 : Option Addr) (c2 : Nat) (PD PM : Nat → Prop) (l0 l1 : List S25) (l2 : List S41) (a3 : Int) (a4 : Bool), v6 = .int .i64 x6 ∧ Aside0 (Zb.l0 kq l0 l1 l2 a3 a4 st x6 = some (z1, z2, z3, z4, z5)) ∧ Aside0 (kq ≤ k) ∧ Aside0 (VG w0 w' PD PM (.slice A0 l0.length c0) (.slice A1 l1.length c1) (.slice A2 l2.length c2) l0 l1 l2) ∧ Aside0 (Ym w' w.heap.size (.slice A0 l0.length c0) (.slice A1 l1.length c1) (.slice A2 l2.length c2) a3 a4) ∧ Aside0 (Ym w' (w.heap.size + 1) (.slice none 0 0) (.slice none 0 0) (.slice none 0 0) 0 false) ∧ Aside0 (Below w0.heap.size w0 w') ∧ Aside0 (Kept w w' P) ∧ Aside0 (∀ j, PE PD PM (.slice A2 l2.length c2) j → P j ∨ w.heap.size ≤ j) ∧ Aside0 (¬ PE PD PM (.slice A2 l2.length c2) w.heap.size) ∧ Aside0 (¬ PE PD PM (.slice A2 l2.length c2) (w.heap.size + 1)))
 case atStart => exact ⟨0, A0, c0, A7, c7, A2, c2, PD, _, l0, t, l2, a3, a4, rfl, A1_, ⟨Nat.le_refl _⟩, E2, BE2, BQ2, LB2, LK2, SP, ⟨nE1⟩, ⟨nQ1⟩⟩
 case round =>
  clear A1_ A0_ E2 BE2 BQ2 LB2 LK2 SP nE1 nQ1 HE hsb nE nQ; obtain ⟨x6, A0, c0, A1, c1, A2, c2, PD, PM, l0, l1, l2, a3, a4, rfl, HA, HK1, E0, BE0, BQ0, LB0, LK0, SP, nE, nQ⟩ := hrel
  cases gk with
  | zero => exact absurd HA.out (by simp [Zb.l0])
  | succ k1 =>
   have h := HA.out; clear HA; simp only [Zb.l0] at h
   by_cases q : x6 < st
   rotate_left
   ·rw [if_neg q] at h
    simp only [Option.some.injEq, Prod.mk.injEq] at h; obtain ⟨rfl, rfl, rfl, rfl, rfl⟩ := h; have qb : decide (x6 < st) = false := decide_eq_false q; clear q; have h9 := H9.out; clear H9; obtain ⟨hP⟩ := HP; subst hP; obtain ⟨x0, x1, x2, x3, x4⟩ := BE0.out.cells; obtain ⟨k0, k1_, k2, k3, k4⟩ := BE0.out.XC; obtain ⟨y0, y1, y2, y3, y4⟩ := BQ0.out.cells; obtain ⟨f0, f1, f2, f3, f4⟩ := BQ0.out.XC
    go_wp2_with fail
    clear x0 x1 x2 x3 x4 k0 k1_ k2 k3 k4 y0 y1 y2 y3 y4 f0 f1 f2 f3 f4; refine (Yy.calls k A2 c2 l2 n9 _ (Kd.Xi E0.out.l).2.2 (Kd.Xi E0.out.l).2.1 A9_.out).mono ?_; rintro e w8 ⟨rfl, nd, hw⟩; have hb := Vd hw; clear hw nd; have E8 := zz (E0.out.below hb); have BE8 := zz (BE0.out.below hb); have BQ8 := zz (BQ0.out.below hb); have LB8 := zz (Xe LB0.out hb); have LK8 := zz (LK0.out.below hb); clear hb E0 BE0 BQ0 LB0 LK0
    by_cases q9 : n9 > 0
    ·rw [if_pos q9] at h9
     have q9b : decide (0 < n9) = true := decide_eq_true q9; replace h9 := Option.bind_eq_some_iff.mp h9; obtain ⟨t9, ht9, h9⟩ := h9; have A8_ := zz ht9; simp only [Option.some.injEq, Prod.mk.injEq] at h9; obtain ⟨rfl, rfl, rfl, rfl, rfl, rfl⟩ := h9; clear q9 ht9; obtain ⟨x0, x1, x2, x3, x4⟩ := BE8.out.cells
     go_wp2_with fail
     clear x0 x1 x2 x3 x4; refine (X4.calls k A0 c0 l0 t9 _ (Kd.Xi E8.out.d).2.2 (Kd.Xi E8.out.d).2.1 A8_.out).mono ?_; rintro e w9 ⟨v9, rfl, hS, hb⟩; have hR := Kd.Zv (Kd.S_R hS); obtain ⟨A10, c10, e10⟩ := Kd.Xx hR; subst e10; have R9 := zz hR; have hlt8 := zz E8.out.lt; have hwl := zz LK8.out.1; have hq8 := zz BQ8.out.lt; clear hS hR; have E9 := zz (E8.out.below hb); have BE9 := zz (BE8.out.below hb); have BQ9 := zz (BQ8.out.below hb); have LB9 := zz (Xe LB8.out hb); have LK9 := zz (LK8.out.below hb); clear hb E8 BE8 BQ8 LB8 LK8
     have EM : VG w0 w9 PD (fun j => w8.heap.size ≤ j ∧ j < w9.heap.size) (.slice A0 l0.length c0) (.slice A10 t9.length c10) (.slice A2 l2.length c2) l0 t9 l2 := ⟨E9.out.d, Kd.XN (Kd.XT R9.out (by have h_ := HZ.out; have h2_ := hwl.out; omega)) (fun j hj => ⟨hj.2.1, hj.2.2.1⟩), E9.out.l, E9.out.pd, fun j hj => ⟨hj.2, fun e_ => by have h1 := hlt8.out j (.inr (.inr e_)); omega⟩, fun j hj hp => by have h1 := hlt8.out j (.inl hj); omega⟩
     have nE9 : ¬ PE PD (fun j => w8.heap.size ≤ j ∧ j < w9.heap.size) (.slice A2 l2.length c2) w.heap.size := by
      rintro (h_ | h_ | h_)
      ·exact nE.out (.inl h_)
      ·have := hq8.out; omega
      ·exact nE.out (.inr (.inr h_))
     have nQ9 : ¬ PE PD (fun j => w8.heap.size ≤ j ∧ j < w9.heap.size) (.slice A2 l2.length c2) (w.heap.size + 1) := by
      rintro (h_ | h_ | h_)
      ·exact nQ.out (.inl h_)
      ·have := hq8.out; omega
      ·exact nQ.out (.inr (.inr h_))
     obtain ⟨x0, x1, x2, x3, x4⟩ := BE9.out.cells; obtain ⟨k0, k1_, k2, k3, k4⟩ := BE9.out.XC; obtain ⟨y0, y1, y2, y3, y4⟩ := BQ9.out.cells; obtain ⟨f0, f1, f2, f3, f4⟩ := BQ9.out.XC
     go_wp2
     refine bodyPost_ret (v := .tuple #[.agg #[.slice A0 l0.length c0, .slice A10 t9.length c10, .slice A2 l2.length c2, .int .i64 a3, .bool a4], .bool false]) zb143 rfl ⟨A0, c0, _, _, A2, c2, rfl, PD, _, (EM.far nE9 1 _).Jj nQ9, (fun j hj => hj.elim (fun h_ => SP.out j (.inl h_)) (fun hj => hj.elim (fun h_ => .inr (by have h2_ := hwl.out; omega)) (fun h_ => SP.out j (.inr (.inr h_))))), ?_, ?_⟩
     ·exact (Xc (Xc (Xc (Xc (Xc (Xc LB9.out HZ.out) HZ1.out) HZ1.out) HZ1.out) HZ1.out) HZ1.out)
     ·exact ((((((LK9.out.setCell (p := ⟨w.heap.size, 1, none⟩) (.inr (Nat.le_refl _)) _).setCell (p := ⟨w.heap.size + 1, 0, none⟩) (.inr (Nat.le_succ _)) _).setCell (p := ⟨w.heap.size + 1, 1, none⟩) (.inr (Nat.le_succ _)) _).setCell (p := ⟨w.heap.size + 1, 2, none⟩) (.inr (Nat.le_succ _)) _).setCell (p := ⟨w.heap.size + 1, 3, none⟩) (.inr (Nat.le_succ _)) _).setCell (p := ⟨w.heap.size + 1, 4, none⟩) (.inr (Nat.le_succ _)) _)
    ·rw [if_neg q9] at h9
     have q9b : decide (0 < n9) = false := decide_eq_false q9; simp only [Option.some.injEq, Prod.mk.injEq] at h9; obtain ⟨rfl, rfl, rfl, rfl, rfl, rfl⟩ := h9; clear q9; obtain ⟨x0, x1, x2, x3, x4⟩ := BE8.out.cells; obtain ⟨k0, k1_, k2, k3, k4⟩ := BE8.out.XC; obtain ⟨y0, y1, y2, y3, y4⟩ := BQ8.out.cells; obtain ⟨f0, f1, f2, f3, f4⟩ := BQ8.out.XC
     go_wp2
     refine bodyPost_ret (v := .tuple #[.agg #[.slice A0 l0.length c0, .slice A1 l1.length c1, .slice A2 l2.length c2, .int .i64 a3, .bool false], .bool true]) zb143 rfl ⟨A0, c0, _, _, A2, c2, rfl, PD, PM, (E8.out.far nE.out 4 _).Jj nQ.out, SP.out, ?_, ?_⟩
     ·exact (Xc (Xc (Xc (Xc (Xc (Xc LB8.out HZ.out) HZ1.out) HZ1.out) HZ1.out) HZ1.out) HZ1.out)
     ·exact ((((((LK8.out.setCell (p := ⟨w.heap.size, 4, none⟩) (.inr (Nat.le_refl _)) _).setCell (p := ⟨w.heap.size + 1, 0, none⟩) (.inr (Nat.le_succ _)) _).setCell (p := ⟨w.heap.size + 1, 1, none⟩) (.inr (Nat.le_succ _)) _).setCell (p := ⟨w.heap.size + 1, 2, none⟩) (.inr (Nat.le_succ _)) _).setCell (p := ⟨w.heap.size + 1, 3, none⟩) (.inr (Nat.le_succ _)) _).setCell (p := ⟨w.heap.size + 1, 4, none⟩) (.inr (Nat.le_succ _)) _)
   rw [if_pos q] at h; have qb : decide (x6 < st) = true := decide_eq_true q; clear q; replace h := Option.bind_eq_some_iff.mp h; obtain ⟨n1, hn1, h⟩ := h; have A2_ := zz hn1; have H := zz h; clear hn1 h; obtain ⟨x0, x1, x2, x3, x4⟩ := BE0.out.cells
   go_wp2_with fail
   clear x0 x1 x2 x3 x4; refine (Yy.calls k1 A2 c2 l2 n1 _ (Kd.Xi E0.out.l).2.2 (Kd.Xi E0.out.l).2.1 A2_.out).mono ?_; rintro e w1 ⟨rfl, nd, hw⟩; have hb := Vd hw; clear hw nd; have E1 := zz (E0.out.below hb); have BE1 := zz (BE0.out.below hb); have BQ1 := zz (BQ0.out.below hb); have LB1 := zz (Xe LB0.out hb); have LK1 := zz (LK0.out.below hb); clear hb E0 BE0 BQ0 LB0 LK0; have h := H.out; clear H
   by_cases q : n1 > 0
   rotate_left
   ·rw [if_neg q] at h
    simp only [Option.some.injEq, Prod.mk.injEq] at h; obtain ⟨rfl, rfl, rfl, rfl, rfl⟩ := h; have q1b : decide (0 < n1) = false := decide_eq_false q; clear q; have h9 := H9.out; clear H9; obtain ⟨hP⟩ := HP; subst hP; obtain ⟨x0, x1, x2, x3, x4⟩ := BE1.out.cells; obtain ⟨k0, k1_, k2, k3, k4⟩ := BE1.out.XC; obtain ⟨y0, y1, y2, y3, y4⟩ := BQ1.out.cells; obtain ⟨f0, f1, f2, f3, f4⟩ := BQ1.out.XC
    go_wp2_with fail
    clear x0 x1 x2 x3 x4 k0 k1_ k2 k3 k4 y0 y1 y2 y3 y4 f0 f1 f2 f3 f4; refine (Yy.calls k A2 c2 l2 n9 _ (Kd.Xi E1.out.l).2.2 (Kd.Xi E1.out.l).2.1 A9_.out).mono ?_; rintro e w8 ⟨rfl, nd, hw⟩; have hb := Vd hw; clear hw nd; have E8 := zz (E1.out.below hb); have BE8 := zz (BE1.out.below hb); have BQ8 := zz (BQ1.out.below hb); have LB8 := zz (Xe LB1.out hb); have LK8 := zz (LK1.out.below hb); clear hb E1 BE1 BQ1 LB1 LK1
    by_cases q9 : n9 > 0
    ·rw [if_pos q9] at h9
     have q9b : decide (0 < n9) = true := decide_eq_true q9; replace h9 := Option.bind_eq_some_iff.mp h9; obtain ⟨t9, ht9, h9⟩ := h9; have A8_ := zz ht9; simp only [Option.some.injEq, Prod.mk.injEq] at h9; obtain ⟨rfl, rfl, rfl, rfl, rfl, rfl⟩ := h9; clear q9 ht9; obtain ⟨x0, x1, x2, x3, x4⟩ := BE8.out.cells
     go_wp2_with fail
     clear x0 x1 x2 x3 x4; refine (X4.calls k A0 c0 l0 t9 _ (Kd.Xi E8.out.d).2.2 (Kd.Xi E8.out.d).2.1 A8_.out).mono ?_; rintro e w9 ⟨v9, rfl, hS, hb⟩; have hR := Kd.Zv (Kd.S_R hS); obtain ⟨A10, c10, e10⟩ := Kd.Xx hR; subst e10; have R9 := zz hR; have hlt8 := zz E8.out.lt; have hwl := zz LK8.out.1; have hq8 := zz BQ8.out.lt; clear hS hR; have E9 := zz (E8.out.below hb); have BE9 := zz (BE8.out.below hb); have BQ9 := zz (BQ8.out.below hb); have LB9 := zz (Xe LB8.out hb); have LK9 := zz (LK8.out.below hb); clear hb E8 BE8 BQ8 LB8 LK8
     have EM : VG w0 w9 PD (fun j => w8.heap.size ≤ j ∧ j < w9.heap.size) (.slice A0 l0.length c0) (.slice A10 t9.length c10) (.slice A2 l2.length c2) l0 t9 l2 := ⟨E9.out.d, Kd.XN (Kd.XT R9.out (by have h_ := HZ.out; have h2_ := hwl.out; omega)) (fun j hj => ⟨hj.2.1, hj.2.2.1⟩), E9.out.l, E9.out.pd, fun j hj => ⟨hj.2, fun e_ => by have h1 := hlt8.out j (.inr (.inr e_)); omega⟩, fun j hj hp => by have h1 := hlt8.out j (.inl hj); omega⟩
     have nE9 : ¬ PE PD (fun j => w8.heap.size ≤ j ∧ j < w9.heap.size) (.slice A2 l2.length c2) w.heap.size := by
      rintro (h_ | h_ | h_)
      ·exact nE.out (.inl h_)
      ·have := hq8.out; omega
      ·exact nE.out (.inr (.inr h_))
     have nQ9 : ¬ PE PD (fun j => w8.heap.size ≤ j ∧ j < w9.heap.size) (.slice A2 l2.length c2) (w.heap.size + 1) := by
      rintro (h_ | h_ | h_)
      ·exact nQ.out (.inl h_)
      ·have := hq8.out; omega
      ·exact nQ.out (.inr (.inr h_))
     obtain ⟨x0, x1, x2, x3, x4⟩ := BE9.out.cells; obtain ⟨k0, k1_, k2, k3, k4⟩ := BE9.out.XC; obtain ⟨y0, y1, y2, y3, y4⟩ := BQ9.out.cells; obtain ⟨f0, f1, f2, f3, f4⟩ := BQ9.out.XC
     go_wp2
     refine bodyPost_ret (v := .tuple #[.agg #[.slice A0 l0.length c0, .slice A10 t9.length c10, .slice A2 l2.length c2, .int .i64 a3, .bool a4], .bool false]) zb143 rfl ⟨A0, c0, _, _, A2, c2, rfl, PD, _, (EM.far nE9 1 _).Jj nQ9, (fun j hj => hj.elim (fun h_ => SP.out j (.inl h_)) (fun hj => hj.elim (fun h_ => .inr (by have h2_ := hwl.out; omega)) (fun h_ => SP.out j (.inr (.inr h_))))), ?_, ?_⟩
     ·exact (Xc (Xc (Xc (Xc (Xc (Xc LB9.out HZ.out) HZ1.out) HZ1.out) HZ1.out) HZ1.out) HZ1.out)
     ·exact ((((((LK9.out.setCell (p := ⟨w.heap.size, 1, none⟩) (.inr (Nat.le_refl _)) _).setCell (p := ⟨w.heap.size + 1, 0, none⟩) (.inr (Nat.le_succ _)) _).setCell (p := ⟨w.heap.size + 1, 1, none⟩) (.inr (Nat.le_succ _)) _).setCell (p := ⟨w.heap.size + 1, 2, none⟩) (.inr (Nat.le_succ _)) _).setCell (p := ⟨w.heap.size + 1, 3, none⟩) (.inr (Nat.le_succ _)) _).setCell (p := ⟨w.heap.size + 1, 4, none⟩) (.inr (Nat.le_succ _)) _)
    ·rw [if_neg q9] at h9
     have q9b : decide (0 < n9) = false := decide_eq_false q9; simp only [Option.some.injEq, Prod.mk.injEq] at h9; obtain ⟨rfl, rfl, rfl, rfl, rfl, rfl⟩ := h9; clear q9; obtain ⟨x0, x1, x2, x3, x4⟩ := BE8.out.cells; obtain ⟨k0, k1_, k2, k3, k4⟩ := BE8.out.XC; obtain ⟨y0, y1, y2, y3, y4⟩ := BQ8.out.cells; obtain ⟨f0, f1, f2, f3, f4⟩ := BQ8.out.XC
     go_wp2
     refine bodyPost_ret (v := .tuple #[.agg #[.slice A0 l0.length c0, .slice A1 l1.length c1, .slice A2 l2.length c2, .int .i64 a3, .bool false], .bool true]) zb143 rfl ⟨A0, c0, _, _, A2, c2, rfl, PD, PM, (E8.out.far nE.out 4 _).Jj nQ.out, SP.out, ?_, ?_⟩
     ·exact (Xc (Xc (Xc (Xc (Xc (Xc LB8.out HZ.out) HZ1.out) HZ1.out) HZ1.out) HZ1.out) HZ1.out)
     ·exact ((((((LK8.out.setCell (p := ⟨w.heap.size, 4, none⟩) (.inr (Nat.le_refl _)) _).setCell (p := ⟨w.heap.size + 1, 0, none⟩) (.inr (Nat.le_succ _)) _).setCell (p := ⟨w.heap.size + 1, 1, none⟩) (.inr (Nat.le_succ _)) _).setCell (p := ⟨w.heap.size + 1, 2, none⟩) (.inr (Nat.le_succ _)) _).setCell (p := ⟨w.heap.size + 1, 3, none⟩) (.inr (Nat.le_succ _)) _).setCell (p := ⟨w.heap.size + 1, 4, none⟩) (.inr (Nat.le_succ _)) _)
   rw [if_pos q] at h; have q1b : decide (0 < n1) = true := decide_eq_true q; replace h := Option.bind_eq_some_iff.mp h; obtain ⟨⟨o1, o2, o3, o4, o5⟩, ho, h⟩ := h; have A3_ := zz ho; have H := zz h; clear q ho h
   go_wp2_with fail
   have E2 := zz (E1.out.below (XX (Below.refl _ _)))
   have BE2 : Aside0 (Ym w1.drew w.heap.size _ _ _ _ _) := ⟨Yd BE1.out⟩
   have BQ2 : Aside0 (Ym w1.drew (w.heap.size + 1) _ _ _ _ _) := ⟨Yd BQ1.out⟩
   have LB2 := zz (Yt LB1.out); have LK2 := zz (Kept.drew LK1.out); clear E1 BE1 BQ1 LB1 LK1; refine ZR (n := 6) (S := fun w' => w'.cell? ⟨w.heap.size, 0, none⟩ = some (.slice A0 l0.length c0) ∧ w'.cell? ⟨w.heap.size, 1, none⟩ = some (.slice A1 l1.length c1) ∧ w'.cell? ⟨w.heap.size, 2, none⟩ = some (.slice A2 l2.length c2) ∧ w'.cell? ⟨w.heap.size, 3, none⟩ = some (.int .i64 a3) ∧ w'.cell? ⟨w.heap.size, 4, none⟩ = some (.bool a4)) (ds := [4, 5]) #[false, false, false, false, false, false] zb13 rfl rfl ⟨BE2.out.cells.1, BE2.out.cells.2.1, BE2.out.cells.2.2.1, BE2.out.cells.2.2.2.1, BE2.out.cells.2.2.2.2⟩ (fun hHeld => ?_); refine ZV Zb.tab5 Zb.Xty (fun HT_ HW_ => ?_); generalize w1.drew = w2 at E2 BE2 BQ2 LB2 LK2 hHeld ⊢; refine pu 1 25 #[false, true, false, false, false, false] HT_ ?_; refine tk 0 24 #[true, true, false, false, false, false] HT_ HW_ hHeld ?_; refine tk 2 26 #[true, true, true, false, false, false] HT_ HW_ hHeld ?_; refine Vr (i := 3) (N := some 27) #[true, true, true, true, false, false] rfl rfl (Zf HT_.out zb13) (by decide) (fun K hK => ?_); refine Ji Try.func157 zb13 rfl #[.slice A2 l2.length c2] (by rfl) rfl rfl zb0 ?_
   with_reducible refine (Yy.calls k1 A2 c2 l2 n1 _ (Kd.Xi E2.out.l).2.2 (Kd.Xi E2.out.l).2.1 A2_.out).mono ?_
   rintro e w3 ⟨rfl, nd, hw⟩; refine ⟨_, rfl, ?_⟩; have hb := Vd hw; clear hw nd hHeld; have E3 := zz (E2.out.below hb); have BE3 := zz (BE2.out.below hb); have BQ3 := zz (BQ2.out.below hb); have LB3 := zz (Xe LB2.out hb); have LK3 := zz (LK2.out.below hb); clear hb E2 BE2 BQ2 LB2 LK2; refine hK.out _ _ ⟨BE3.out.cells.1, BE3.out.cells.2.1, BE3.out.cells.2.2.1, BE3.out.cells.2.2.2.1, BE3.out.cells.2.2.2.2⟩ (fun hHeld => ?_); clear hK K; refine YP (a' := ?_) ?_ ?_; rotate_left
   ·show Act.put _ (some 27) _ = _
    simp only [Act.put, List.setIfInBounds_toArray, List.set_cons_zero, List.set_cons_succ, XG, XW]
    rfl
   refine Uz (i := 4) (N := some 28) #[true, true, true, true, true, false] rfl rfl (Zf HT_.out zb13) (by decide) (fun K hK => ?_); refine Ji Try.func155 zb13 rfl #[.agg #[.slice A0 l0.length c0, .slice A1 l1.length c1, .slice A2 l2.length c2, .int .i64 a3, .bool a4], .int .i64 n1] (by rfl) rfl rfl zb0 ?_
   with_reducible refine (Zj.to k1 PD PM _ _ _ l0 l1 l2 a3 a4 n1 o1 o2 o3 o4 o5 w0 _ LB3.out E3.out A3_.out).mono ?_
   rintro e w6 ⟨B0, d0, B1, d1, B2, d2, rfl, PD', PM', hE6, hS6, hb6, hk6⟩; refine ⟨_, rfl, ?_⟩; have BE6 := zz (BE3.out.kept hk6 nE.out); have BQ6 := zz (BQ3.out.kept hk6 nQ.out); have LK6 := zz (LK3.out.Dk hk6 SP.out); have hn := zz LK3.out.1; have hlt := zz BQ3.out.lt
   have nE6 : Aside0 (¬ PE PD' PM' (.slice B2 o3.length d2) w.heap.size) := ⟨fun h_ => by
    rcases hS6 _ h_ with h1 | h1
    ·exact nE.out h1
    ·have := hlt.out; omega⟩
   have nQ6 : Aside0 (¬ PE PD' PM' (.slice B2 o3.length d2) (w.heap.size + 1)) := ⟨fun h_ => by
    rcases hS6 _ h_ with h1 | h1
    ·exact nQ.out h1
    ·have := hlt.out; omega⟩
   have S6 : Aside0 (∀ j, PE PD' PM' (.slice B2 o3.length d2) j → P j ∨ w.heap.size ≤ j) := ⟨fun j hj => (hS6 j hj).elim (SP.out j) (fun h_ => .inr (Nat.le_trans hn.out h_))⟩
   have E6 := zz hE6; have LB6 := zz hb6; clear hE6 hS6 hb6 hk6 E3 BE3 BQ3 LB3 LK3 SP nE nQ; obtain ⟨y0, y1_, y2_, y3_, y4_⟩ := BE6.out.cells; obtain ⟨f0, f1, f2, f3, f4⟩ := BE6.out.XC; refine hK.out _ _ ?_; clear hK K; refine YP (a' := ?_) ?_ ?_; rotate_left
   ·show Act.put _ (some 28) _ = _
    simp only [Act.put, List.setIfInBounds_toArray, List.set_cons_zero, List.set_cons_succ, XG, XW]
    rfl
   refine Uz (i := 5) (N := none) #[true, true, true, true, true, true] rfl rfl (Zf HT_.out zb13) (by decide) (fun K hK => ?_); refine M9 (w1 := ?_) (by rfl) rfl ?_ ?_; rotate_left
   ·go_simp
    rfl
   refine hK.out _ _ ?_; clear hK K; refine J4 (J9 HT_.out zb13) ?_; refine Xby (fun w' => VG w0 w' PD' PM' (.slice B0 o1.length d0) (.slice B1 o2.length d1) (.slice B2 o3.length d2) o1 o2 o3 ∧ Ym w' w.heap.size (.slice B0 o1.length d0) (.slice B1 o2.length d1) (.slice B2 o3.length d2) o4 o5 ∧ Ym w' (w.heap.size + 1) (.slice none 0 0) (.slice none 0 0) (.slice none 0 0) 0 false ∧ Below w0.heap.size w0 w' ∧ Kept w w' P) ⟨E6.out.Jj nE6.out, BE6.out.Xku, BQ6.out.Jj (by omega), (Xc (Xc (Xc (Xc (Xc LB6.out HZ.out) HZ.out) HZ.out) HZ.out) HZ.out), (((((LK6.out.setCell (p := ⟨w.heap.size, 0, none⟩) (.inr (Nat.le_refl _)) _).setCell (p := ⟨w.heap.size, 1, none⟩) (.inr (Nat.le_refl _)) _).setCell (p := ⟨w.heap.size, 2, none⟩) (.inr (Nat.le_refl _)) _).setCell (p := ⟨w.heap.size, 3, none⟩) (.inr (Nat.le_refl _)) _).setCell (p := ⟨w.heap.size, 4, none⟩) (.inr (Nat.le_refl _)) _)⟩ ?_; clear y0 y1_ y2_ y3_ y4_ f0 f1 f2 f3 f4 E6 BE6 BQ6 LB6 LK6 hlt hn; rintro w7 ⟨hE7, hBE7, hBQ7, hLB7, hLK7⟩; have E7 := zz hE7; have BE7 := zz hBE7; have BQ7 := zz hBQ7; have LB7 := zz hLB7; have LK7 := zz hLK7; clear hE7 hBE7 hBQ7 hLB7 hLK7
   go_wp2
   go_roundg k1
   case measure => have := HK1.out; omega
   case rel => exact ⟨_, B0, d0, B1, d1, B2, d2, PD', PM', o1, o2, o3, o4, o5, rfl, ⟨(XG (x6 + 1)).symm ▸ H.out⟩, ⟨zb61⟩, E7, BE7, BQ7, LB7, LK7, S6, nE6, nQ6⟩
end Go.Proofs.Ytcefiblpnegepaa.Pr
