import Derived.Test.YtcefiblpnegepaaQBByq
import Derived.Test.YtcefiblpnegepaaQBL12L
import Derived.Test.YtcefiblpnegepaaQBL12O
import Derived.Test.YtcefiblpnegepaaQBL12P
import Derived.Test.YtcefiblpnegepaaQBL21U
namespace Go.Proofs.Ytcefiblpnegepaa.Pr
open Go.RowKit Go.PW Go.PL Go.PM
attribute [local go_sem] Y3 Y4 YV YW Yk Yl Y5 Y6
set_option linter.unusedVariables false
set_option linter.unusedSimpArgs false
abbrev be (A0 : Option Addr) (l0 : List S25) (c0 : Nat) (A1 : Option Addr) (l1 : List S25) (c1 : Nat) (A2 : Option Addr) (l2 : List S41) (c2 : Nat) (a3 : Int) (a4 : Bool) : Obj := .cells #[.slice A0 l0.length c0, .slice A1 l1.length c1, .slice A2 l2.length c2, .int .i64 a3, .bool a4] 52
abbrev be0 : Obj := .cells #[.slice none 0 0, .slice none 0 0, .slice none 0 0, .int .i64 0, .bool false] 52
abbrev bv (a b c d e : Int) (A : Option Addr) (l : List Int) (n : Nat) : Obj := .cells #[.int .i64 a, .int .i64 b, .int .i64 c, .int .i64 d, .int .i64 e, .slice A l.length n] 109
def FJ.f (k : Nat) (l0 l1 : List S25) (l2 : List S41) (a3 : Int) (a4 : Bool) (ek tx pg sl nn : Int) (va : List Int) : Option (List S25 × List S25 × List S41 × Int × Bool) := if ek = 1 then (ZG.f k l0 l1 l2 a3 a4 tx pg sl nn).bind five else if ek = 2 then (ZH.f k l0 l1 l2 a3 a4 tx pg nn).bind five else if ek = 3 then (Ye.f k l0 l1 l2 a3 a4 tx pg va).bind five else if ek = 4 then (Yu.f k l0 l1 l2 a3 a4 tx).bind five else if ek = 5 then (Z9.f k l0 l1 l2 a3 a4 tx).bind five else if ek = 6 then (if a4 = true then some (l0, l1, l2, a3, a4) else (Ya.f pg 0 4).bind fun b => if b = true then Yg.f l0 l1 l2 a3 a4 pg else some (l0, l1, l2, a3, a4)) else if ek = 7 then (if a4 = true then some (l0, l1, l2, a3, a4) else some (l0, l1, l2, (l2.length : Int), a4)) else if ek = 8 then (if 0 ≤ nn then De.f k l0 l1 l2 a3 a4 nn else some (l0, l1, l2, a3, a4)) else if ek = 9 then (if 0 ≤ nn then (if a4 = true then (Zb.f k l0 l1 l2 a3 a4 nn).bind five else some (l0, l1, l2, a3, a4)) else some (l0, l1, l2, a3, a4)) else some (l0, l1, l2, a3, a4)
set_option maxHeartbeats 8000000 in
set_option maxRecDepth 100000 in
theorem FJ.to (k : Nat) (PD PM PV : Nat → Prop) (v0 v1 v2 vv : Value) (l0 l1 : List S25) (l2 : List S41) (a3 : Int) (a4 : Bool) (ek tx pg sl nn : Int) (va : List Int) (r1 r2 : List S25) (r3 : List S41) (r4 : Int) (r5 : Bool) (w0 w : World) (hB : Below w0.heap.size w0 w) (hE : VG w0 w PD PM v0 v1 v2 l0 l1 l2)
 (hV : Kd.R (Kd.int .i64) 3 w w0.heap.size PV vv va) (hPV : ∀ j, PV j → ¬ PE PD PM v2 j)
 (h : FJ.f k l0 l1 l2 a3 a4 ek tx pg sl nn va = some (r1, r2, r3, r4, r5)) :
 Calls Try.prog 127 #[.agg #[v0, v1, v2, .int .i64 a3, .bool a4], .agg #[.int .i64 ek, .int .i64 tx, .int .i64 pg, .int .i64 sl, .int .i64 nn, vv]] w (Qd w0 w (PE PD PM v2) r1 r2 r3 r4 r5) := by
 obtain ⟨AV, cV, eV⟩ := Kd.Xx hV; subst eV; obtain ⟨A0, c0, e0⟩ := Kd.Xx hE.d; obtain ⟨A1, c1, e1⟩ := Kd.Xx hE.m; obtain ⟨A2, c2, e2⟩ := Kd.Xx hE.l; subst e0 e1 e2; have HE := zz hE; have HB := zz hB; have HZ := zz hB.size; have HZ1 := zz (Nat.le_trans hB.size (Nat.le_succ _)); have hu52 := Try.underlying52
 have nE : ¬ PE PD PM (.slice A2 l2.length c2) w.heap.size := fun h => Nat.lt_irrefl _ (hE.lt _ h)
 have nQ : ¬ PE PD PM (.slice A2 l2.length c2) (w.heap.size + 2) := fun h => by have := hE.lt _ h; omega
 have nX : ¬ PE PD PM (.slice A2 l2.length c2) (w.heap.size + 3) := fun h => by have := hE.lt _ h; omega
 have HZ2 := zz (show w0.heap.size ≤ w.heap.size + 2 by have := hB.size; omega); have HZ3 := zz (show w0.heap.size ≤ w.heap.size + 3 by have := hB.size; omega); have HPV := zz hPV; have HV := zz hV; clear hV hPV; clear hE hB
 unfold FJ.f at h
 go_enter Try.func127, Try.ntmps127
 by_cases q1 : ek = 1
 ·rw [if_pos q1] at h
  subst q1; replace h := Option.bind_eq_some_iff.mp h; obtain ⟨⟨m1, m2, m3, m4, m5, m6⟩, hm, h⟩ := h; simp only [five, Option.some.injEq, Prod.mk.injEq] at h; obtain ⟨rfl, rfl, rfl, rfl, rfl⟩ := h; have H := zz hm; clear hm
  go_wp2_with fail
  have E0 := zz (HE.out.below (Xd (Xd (Xd (Xd (Below.refl w.heap.size w) (be A0 l0 c0 A1 l1 c1 A2 l2 c2 a3 a4)) (bv 1 tx pg sl nn AV va cV)) be0) (be A0 l0 c0 A1 l1 c1 A2 l2 c2 a3 a4))); have V0 := zz (Kd.Xz HV.out (Xd (Xd (Xd (Xd (Below.refl w.heap.size w) (be A0 l0 c0 A1 l1 c1 A2 l2 c2 a3 a4)) (bv 1 tx pg sl nn AV va cV)) be0) (be A0 l0 c0 A1 l1 c1 A2 l2 c2 a3 a4)))
  have BX0 : Aside0 (Ym ((((w.alloc (be A0 l0 c0 A1 l1 c1 A2 l2 c2 a3 a4)).alloc (bv 1 tx pg sl nn AV va cV)).alloc be0).alloc (be A0 l0 c0 A1 l1 c1 A2 l2 c2 a3 a4)) (w.heap.size + 3) (.slice A0 l0.length c0) (.slice A1 l1.length c1) (.slice A2 l2.length c2) a3 a4) := ⟨by rw [show w.heap.size + 3 = (((w.alloc (be A0 l0 c0 A1 l1 c1 A2 l2 c2 a3 a4)).alloc (bv 1 tx pg sl nn AV va cV)).alloc be0).heap.size by simp]; exact Ym.new _ _ _ _ _ _⟩
  have BQ0 : Aside0 (Ym ((((w.alloc (be A0 l0 c0 A1 l1 c1 A2 l2 c2 a3 a4)).alloc (bv 1 tx pg sl nn AV va cV)).alloc be0).alloc (be A0 l0 c0 A1 l1 c1 A2 l2 c2 a3 a4)) (w.heap.size + 2) (.slice none 0 0) (.slice none 0 0) (.slice none 0 0) 0 false) := ⟨by rw [show w.heap.size + 2 = ((w.alloc (be A0 l0 c0 A1 l1 c1 A2 l2 c2 a3 a4)).alloc (bv 1 tx pg sl nn AV va cV)).heap.size by simp]; exact XY (Ym.new _ _ _ _ _ _) _⟩
  have LB0 := zz (Xd (Xd (Xd (Xd HB.out (be A0 l0 c0 A1 l1 c1 A2 l2 c2 a3 a4)) (bv 1 tx pg sl nn AV va cV)) be0) (be A0 l0 c0 A1 l1 c1 A2 l2 c2 a3 a4)); have LK0 := zz (((((Kept.refl w (PE PD PM (.slice A2 l2.length c2))).alloc (be A0 l0 c0 A1 l1 c1 A2 l2 c2 a3 a4)).alloc (bv 1 tx pg sl nn AV va cV)).alloc be0).alloc (be A0 l0 c0 A1 l1 c1 A2 l2 c2 a3 a4)); refine (ZG.to k PD PM _ _ _ l0 l1 l2 a3 a4 tx pg sl nn m1 m2 m3 m4 m5 m6 w0 _ LB0.out E0.out H.out).mono ?_; rintro e w6 ⟨B0, d0, B1, d1, B2, d2, rfl, PD', PM', hE6, hS6, hb6, hk6⟩; have BX6 := zz (BX0.out.kept hk6 nX); have BQ6 := zz (BQ0.out.kept hk6 nQ); have LK6 := zz (LK0.out.Dk hk6 (fun j hj => .inl hj)); have hn4 := zz LK0.out.1; have hq4 := zz BX0.out.lt
  have nQ6 : ¬ PE PD' PM' (.slice B2 m3.length d2) (w.heap.size + 2) := fun h_ => by
   rcases hS6 _ h_ with h1 | h1
   ·exact nQ h1
   ·have := hq4.out; omega
  have nX6 : ¬ PE PD' PM' (.slice B2 m3.length d2) (w.heap.size + 3) := fun h_ => by
   rcases hS6 _ h_ with h1 | h1
   ·exact nX h1
   ·have := hq4.out; omega
  have S6 := zz hS6; have E6 := zz hE6; have LB6 := zz hb6; clear hE6 hS6 hb6 hk6 E0 BX0 BQ0 LB0 LK0 V0; obtain ⟨x0, x1, x2, x3, x4⟩ := BX6.out.cells; obtain ⟨k0, k1, k2, k3, k4⟩ := BX6.out.XC; obtain ⟨y0, y1, y2, y3, y4⟩ := BQ6.out.cells; obtain ⟨f0, f1, f2, f3, f4⟩ := BQ6.out.XC
  go_wp2
  refine bodyPost_ret (v := .agg #[.slice B0 m1.length d0, .slice B1 m2.length d1, .slice B2 m3.length d2, .int .i64 m4, .bool m5]) zb60 rfl ⟨B0, d0, B1, d1, B2, d2, rfl, PD', PM', (E6.out.Jj nX6).Jj nQ6, fun j hj => (S6.out j hj).imp id (fun h_ => Nat.le_trans hn4.out h_), ?_, ?_⟩
  ·exact (Xc (Xc (Xc (Xc (Xc (Xc (Xc (Xc (Xc (Xc LB6.out HZ3.out) HZ3.out) HZ3.out) HZ3.out) HZ3.out) HZ2.out) HZ2.out) HZ2.out) HZ2.out) HZ2.out)
  ·exact ((((((((((LK6.out.setCell (p := ⟨w.heap.size + 3, 0, none⟩) (.inr (Nat.le_add_right _ _)) _).setCell (p := ⟨w.heap.size + 3, 1, none⟩) (.inr (Nat.le_add_right _ _)) _).setCell (p := ⟨w.heap.size + 3, 2, none⟩) (.inr (Nat.le_add_right _ _)) _).setCell (p := ⟨w.heap.size + 3, 3, none⟩) (.inr (Nat.le_add_right _ _)) _).setCell (p := ⟨w.heap.size + 3, 4, none⟩) (.inr (Nat.le_add_right _ _)) _).setCell (p := ⟨w.heap.size + 2, 0, none⟩) (.inr (Nat.le_add_right _ _)) _).setCell (p := ⟨w.heap.size + 2, 1, none⟩) (.inr (Nat.le_add_right _ _)) _).setCell (p := ⟨w.heap.size + 2, 2, none⟩) (.inr (Nat.le_add_right _ _)) _).setCell (p := ⟨w.heap.size + 2, 3, none⟩) (.inr (Nat.le_add_right _ _)) _).setCell (p := ⟨w.heap.size + 2, 4, none⟩) (.inr (Nat.le_add_right _ _)) _)
 rw [if_neg q1] at h; have q1b : (ek == 1) = false := beq_eq_false_iff_ne.mpr q1
 by_cases q2 : ek = 2
 ·rw [if_pos q2] at h
  subst q2; clear q1b; replace h := Option.bind_eq_some_iff.mp h; obtain ⟨⟨m1, m2, m3, m4, m5, m6⟩, hm, h⟩ := h; simp only [five, Option.some.injEq, Prod.mk.injEq] at h; obtain ⟨rfl, rfl, rfl, rfl, rfl⟩ := h; have H := zz hm; clear hm
  go_wp2_with fail
  have E0 := zz (HE.out.below (Xd (Xd (Xd (Xd (Below.refl w.heap.size w) (be A0 l0 c0 A1 l1 c1 A2 l2 c2 a3 a4)) (bv 2 tx pg sl nn AV va cV)) be0) (be A0 l0 c0 A1 l1 c1 A2 l2 c2 a3 a4))); have V0 := zz (Kd.Xz HV.out (Xd (Xd (Xd (Xd (Below.refl w.heap.size w) (be A0 l0 c0 A1 l1 c1 A2 l2 c2 a3 a4)) (bv 2 tx pg sl nn AV va cV)) be0) (be A0 l0 c0 A1 l1 c1 A2 l2 c2 a3 a4)))
  have BX0 : Aside0 (Ym ((((w.alloc (be A0 l0 c0 A1 l1 c1 A2 l2 c2 a3 a4)).alloc (bv 2 tx pg sl nn AV va cV)).alloc be0).alloc (be A0 l0 c0 A1 l1 c1 A2 l2 c2 a3 a4)) (w.heap.size + 3) (.slice A0 l0.length c0) (.slice A1 l1.length c1) (.slice A2 l2.length c2) a3 a4) := ⟨by rw [show w.heap.size + 3 = (((w.alloc (be A0 l0 c0 A1 l1 c1 A2 l2 c2 a3 a4)).alloc (bv 2 tx pg sl nn AV va cV)).alloc be0).heap.size by simp]; exact Ym.new _ _ _ _ _ _⟩
  have BQ0 : Aside0 (Ym ((((w.alloc (be A0 l0 c0 A1 l1 c1 A2 l2 c2 a3 a4)).alloc (bv 2 tx pg sl nn AV va cV)).alloc be0).alloc (be A0 l0 c0 A1 l1 c1 A2 l2 c2 a3 a4)) (w.heap.size + 2) (.slice none 0 0) (.slice none 0 0) (.slice none 0 0) 0 false) := ⟨by rw [show w.heap.size + 2 = ((w.alloc (be A0 l0 c0 A1 l1 c1 A2 l2 c2 a3 a4)).alloc (bv 2 tx pg sl nn AV va cV)).heap.size by simp]; exact XY (Ym.new _ _ _ _ _ _) _⟩
  have LB0 := zz (Xd (Xd (Xd (Xd HB.out (be A0 l0 c0 A1 l1 c1 A2 l2 c2 a3 a4)) (bv 2 tx pg sl nn AV va cV)) be0) (be A0 l0 c0 A1 l1 c1 A2 l2 c2 a3 a4)); have LK0 := zz (((((Kept.refl w (PE PD PM (.slice A2 l2.length c2))).alloc (be A0 l0 c0 A1 l1 c1 A2 l2 c2 a3 a4)).alloc (bv 2 tx pg sl nn AV va cV)).alloc be0).alloc (be A0 l0 c0 A1 l1 c1 A2 l2 c2 a3 a4)); refine (ZH.to k PD PM _ _ _ l0 l1 l2 a3 a4 tx pg nn m1 m2 m3 m4 m5 m6 w0 _ LB0.out E0.out H.out).mono ?_; rintro e w6 ⟨B0, d0, B1, d1, B2, d2, rfl, PD', PM', hE6, hS6, hb6, hk6⟩; have BX6 := zz (BX0.out.kept hk6 nX); have BQ6 := zz (BQ0.out.kept hk6 nQ); have LK6 := zz (LK0.out.Dk hk6 (fun j hj => .inl hj)); have hn4 := zz LK0.out.1; have hq4 := zz BX0.out.lt
  have nQ6 : ¬ PE PD' PM' (.slice B2 m3.length d2) (w.heap.size + 2) := fun h_ => by
   rcases hS6 _ h_ with h1 | h1
   ·exact nQ h1
   ·have := hq4.out; omega
  have nX6 : ¬ PE PD' PM' (.slice B2 m3.length d2) (w.heap.size + 3) := fun h_ => by
   rcases hS6 _ h_ with h1 | h1
   ·exact nX h1
   ·have := hq4.out; omega
  have S6 := zz hS6; have E6 := zz hE6; have LB6 := zz hb6; clear hE6 hS6 hb6 hk6 E0 BX0 BQ0 LB0 LK0 V0; obtain ⟨x0, x1, x2, x3, x4⟩ := BX6.out.cells; obtain ⟨k0, k1, k2, k3, k4⟩ := BX6.out.XC; obtain ⟨y0, y1, y2, y3, y4⟩ := BQ6.out.cells; obtain ⟨f0, f1, f2, f3, f4⟩ := BQ6.out.XC
  go_wp2
  refine bodyPost_ret (v := .agg #[.slice B0 m1.length d0, .slice B1 m2.length d1, .slice B2 m3.length d2, .int .i64 m4, .bool m5]) zb60 rfl ⟨B0, d0, B1, d1, B2, d2, rfl, PD', PM', (E6.out.Jj nX6).Jj nQ6, fun j hj => (S6.out j hj).imp id (fun h_ => Nat.le_trans hn4.out h_), ?_, ?_⟩
  ·exact (Xc (Xc (Xc (Xc (Xc (Xc (Xc (Xc (Xc (Xc LB6.out HZ3.out) HZ3.out) HZ3.out) HZ3.out) HZ3.out) HZ2.out) HZ2.out) HZ2.out) HZ2.out) HZ2.out)
  ·exact ((((((((((LK6.out.setCell (p := ⟨w.heap.size + 3, 0, none⟩) (.inr (Nat.le_add_right _ _)) _).setCell (p := ⟨w.heap.size + 3, 1, none⟩) (.inr (Nat.le_add_right _ _)) _).setCell (p := ⟨w.heap.size + 3, 2, none⟩) (.inr (Nat.le_add_right _ _)) _).setCell (p := ⟨w.heap.size + 3, 3, none⟩) (.inr (Nat.le_add_right _ _)) _).setCell (p := ⟨w.heap.size + 3, 4, none⟩) (.inr (Nat.le_add_right _ _)) _).setCell (p := ⟨w.heap.size + 2, 0, none⟩) (.inr (Nat.le_add_right _ _)) _).setCell (p := ⟨w.heap.size + 2, 1, none⟩) (.inr (Nat.le_add_right _ _)) _).setCell (p := ⟨w.heap.size + 2, 2, none⟩) (.inr (Nat.le_add_right _ _)) _).setCell (p := ⟨w.heap.size + 2, 3, none⟩) (.inr (Nat.le_add_right _ _)) _).setCell (p := ⟨w.heap.size + 2, 4, none⟩) (.inr (Nat.le_add_right _ _)) _)
 rw [if_neg q2] at h; have q2b : (ek == 2) = false := beq_eq_false_iff_ne.mpr q2
 by_cases q3 : ek = 3
 ·rw [if_pos q3] at h
  subst q3; clear q1b q2b; replace h := Option.bind_eq_some_iff.mp h; obtain ⟨⟨m1, m2, m3, m4, m5, m6⟩, hm, h⟩ := h; simp only [five, Option.some.injEq, Prod.mk.injEq] at h; obtain ⟨rfl, rfl, rfl, rfl, rfl⟩ := h; have H := zz hm; clear hm
  go_wp2_with fail
  have E0 := zz (HE.out.below (Xd (Xd (Xd (Xd (Below.refl w.heap.size w) (be A0 l0 c0 A1 l1 c1 A2 l2 c2 a3 a4)) (bv 3 tx pg sl nn AV va cV)) be0) (be A0 l0 c0 A1 l1 c1 A2 l2 c2 a3 a4))); have V0 := zz (Kd.Xz HV.out (Xd (Xd (Xd (Xd (Below.refl w.heap.size w) (be A0 l0 c0 A1 l1 c1 A2 l2 c2 a3 a4)) (bv 3 tx pg sl nn AV va cV)) be0) (be A0 l0 c0 A1 l1 c1 A2 l2 c2 a3 a4)))
  have BX0 : Aside0 (Ym ((((w.alloc (be A0 l0 c0 A1 l1 c1 A2 l2 c2 a3 a4)).alloc (bv 3 tx pg sl nn AV va cV)).alloc be0).alloc (be A0 l0 c0 A1 l1 c1 A2 l2 c2 a3 a4)) (w.heap.size + 3) (.slice A0 l0.length c0) (.slice A1 l1.length c1) (.slice A2 l2.length c2) a3 a4) := ⟨by rw [show w.heap.size + 3 = (((w.alloc (be A0 l0 c0 A1 l1 c1 A2 l2 c2 a3 a4)).alloc (bv 3 tx pg sl nn AV va cV)).alloc be0).heap.size by simp]; exact Ym.new _ _ _ _ _ _⟩
  have BQ0 : Aside0 (Ym ((((w.alloc (be A0 l0 c0 A1 l1 c1 A2 l2 c2 a3 a4)).alloc (bv 3 tx pg sl nn AV va cV)).alloc be0).alloc (be A0 l0 c0 A1 l1 c1 A2 l2 c2 a3 a4)) (w.heap.size + 2) (.slice none 0 0) (.slice none 0 0) (.slice none 0 0) 0 false) := ⟨by rw [show w.heap.size + 2 = ((w.alloc (be A0 l0 c0 A1 l1 c1 A2 l2 c2 a3 a4)).alloc (bv 3 tx pg sl nn AV va cV)).heap.size by simp]; exact XY (Ym.new _ _ _ _ _ _) _⟩
  have LB0 := zz (Xd (Xd (Xd (Xd HB.out (be A0 l0 c0 A1 l1 c1 A2 l2 c2 a3 a4)) (bv 3 tx pg sl nn AV va cV)) be0) (be A0 l0 c0 A1 l1 c1 A2 l2 c2 a3 a4)); have LK0 := zz (((((Kept.refl w (PE PD PM (.slice A2 l2.length c2))).alloc (be A0 l0 c0 A1 l1 c1 A2 l2 c2 a3 a4)).alloc (bv 3 tx pg sl nn AV va cV)).alloc be0).alloc (be A0 l0 c0 A1 l1 c1 A2 l2 c2 a3 a4)); refine (Ye.to k PD PM PV _ _ _ _ l0 l1 l2 a3 a4 tx pg va m1 m2 m3 m4 m5 m6 w0 _ LB0.out E0.out V0.out HPV.out H.out).mono ?_; rintro e w6 ⟨B0, d0, B1, d1, B2, d2, rfl, PD', PM', hE6, hS6, hb6, hk6⟩; have BX6 := zz (BX0.out.kept hk6 nX); have BQ6 := zz (BQ0.out.kept hk6 nQ); have LK6 := zz (LK0.out.Dk hk6 (fun j hj => .inl hj)); have hn4 := zz LK0.out.1; have hq4 := zz BX0.out.lt
  have nQ6 : ¬ PE PD' PM' (.slice B2 m3.length d2) (w.heap.size + 2) := fun h_ => by
   rcases hS6 _ h_ with h1 | h1
   ·exact nQ h1
   ·have := hq4.out; omega
  have nX6 : ¬ PE PD' PM' (.slice B2 m3.length d2) (w.heap.size + 3) := fun h_ => by
   rcases hS6 _ h_ with h1 | h1
   ·exact nX h1
   ·have := hq4.out; omega
  have S6 := zz hS6; have E6 := zz hE6; have LB6 := zz hb6; clear hE6 hS6 hb6 hk6 E0 BX0 BQ0 LB0 LK0 V0; obtain ⟨x0, x1, x2, x3, x4⟩ := BX6.out.cells; obtain ⟨k0, k1, k2, k3, k4⟩ := BX6.out.XC; obtain ⟨y0, y1, y2, y3, y4⟩ := BQ6.out.cells; obtain ⟨f0, f1, f2, f3, f4⟩ := BQ6.out.XC
  go_wp2
  refine bodyPost_ret (v := .agg #[.slice B0 m1.length d0, .slice B1 m2.length d1, .slice B2 m3.length d2, .int .i64 m4, .bool m5]) zb60 rfl ⟨B0, d0, B1, d1, B2, d2, rfl, PD', PM', (E6.out.Jj nX6).Jj nQ6, fun j hj => (S6.out j hj).imp id (fun h_ => Nat.le_trans hn4.out h_), ?_, ?_⟩
  ·exact (Xc (Xc (Xc (Xc (Xc (Xc (Xc (Xc (Xc (Xc LB6.out HZ3.out) HZ3.out) HZ3.out) HZ3.out) HZ3.out) HZ2.out) HZ2.out) HZ2.out) HZ2.out) HZ2.out)
  ·exact ((((((((((LK6.out.setCell (p := ⟨w.heap.size + 3, 0, none⟩) (.inr (Nat.le_add_right _ _)) _).setCell (p := ⟨w.heap.size + 3, 1, none⟩) (.inr (Nat.le_add_right _ _)) _).setCell (p := ⟨w.heap.size + 3, 2, none⟩) (.inr (Nat.le_add_right _ _)) _).setCell (p := ⟨w.heap.size + 3, 3, none⟩) (.inr (Nat.le_add_right _ _)) _).setCell (p := ⟨w.heap.size + 3, 4, none⟩) (.inr (Nat.le_add_right _ _)) _).setCell (p := ⟨w.heap.size + 2, 0, none⟩) (.inr (Nat.le_add_right _ _)) _).setCell (p := ⟨w.heap.size + 2, 1, none⟩) (.inr (Nat.le_add_right _ _)) _).setCell (p := ⟨w.heap.size + 2, 2, none⟩) (.inr (Nat.le_add_right _ _)) _).setCell (p := ⟨w.heap.size + 2, 3, none⟩) (.inr (Nat.le_add_right _ _)) _).setCell (p := ⟨w.heap.size + 2, 4, none⟩) (.inr (Nat.le_add_right _ _)) _)
 rw [if_neg q3] at h; have q3b : (ek == 3) = false := beq_eq_false_iff_ne.mpr q3
 by_cases q4 : ek = 4
 ·rw [if_pos q4] at h
  subst q4; clear q1b q2b q3b; replace h := Option.bind_eq_some_iff.mp h; obtain ⟨⟨m1, m2, m3, m4, m5, m6⟩, hm, h⟩ := h; simp only [five, Option.some.injEq, Prod.mk.injEq] at h; obtain ⟨rfl, rfl, rfl, rfl, rfl⟩ := h; have H := zz hm; clear hm
  go_wp2_with fail
  have E0 := zz (HE.out.below (Xd (Xd (Xd (Xd (Below.refl w.heap.size w) (be A0 l0 c0 A1 l1 c1 A2 l2 c2 a3 a4)) (bv 4 tx pg sl nn AV va cV)) be0) (be A0 l0 c0 A1 l1 c1 A2 l2 c2 a3 a4))); have V0 := zz (Kd.Xz HV.out (Xd (Xd (Xd (Xd (Below.refl w.heap.size w) (be A0 l0 c0 A1 l1 c1 A2 l2 c2 a3 a4)) (bv 4 tx pg sl nn AV va cV)) be0) (be A0 l0 c0 A1 l1 c1 A2 l2 c2 a3 a4)))
  have BX0 : Aside0 (Ym ((((w.alloc (be A0 l0 c0 A1 l1 c1 A2 l2 c2 a3 a4)).alloc (bv 4 tx pg sl nn AV va cV)).alloc be0).alloc (be A0 l0 c0 A1 l1 c1 A2 l2 c2 a3 a4)) (w.heap.size + 3) (.slice A0 l0.length c0) (.slice A1 l1.length c1) (.slice A2 l2.length c2) a3 a4) := ⟨by rw [show w.heap.size + 3 = (((w.alloc (be A0 l0 c0 A1 l1 c1 A2 l2 c2 a3 a4)).alloc (bv 4 tx pg sl nn AV va cV)).alloc be0).heap.size by simp]; exact Ym.new _ _ _ _ _ _⟩
  have BQ0 : Aside0 (Ym ((((w.alloc (be A0 l0 c0 A1 l1 c1 A2 l2 c2 a3 a4)).alloc (bv 4 tx pg sl nn AV va cV)).alloc be0).alloc (be A0 l0 c0 A1 l1 c1 A2 l2 c2 a3 a4)) (w.heap.size + 2) (.slice none 0 0) (.slice none 0 0) (.slice none 0 0) 0 false) := ⟨by rw [show w.heap.size + 2 = ((w.alloc (be A0 l0 c0 A1 l1 c1 A2 l2 c2 a3 a4)).alloc (bv 4 tx pg sl nn AV va cV)).heap.size by simp]; exact XY (Ym.new _ _ _ _ _ _) _⟩
  have LB0 := zz (Xd (Xd (Xd (Xd HB.out (be A0 l0 c0 A1 l1 c1 A2 l2 c2 a3 a4)) (bv 4 tx pg sl nn AV va cV)) be0) (be A0 l0 c0 A1 l1 c1 A2 l2 c2 a3 a4)); have LK0 := zz (((((Kept.refl w (PE PD PM (.slice A2 l2.length c2))).alloc (be A0 l0 c0 A1 l1 c1 A2 l2 c2 a3 a4)).alloc (bv 4 tx pg sl nn AV va cV)).alloc be0).alloc (be A0 l0 c0 A1 l1 c1 A2 l2 c2 a3 a4)); refine (Yu.to k PD PM _ _ _ l0 l1 l2 a3 a4 tx m1 m2 m3 m4 m5 m6 w0 _ LB0.out E0.out H.out).mono ?_; rintro e w6 ⟨B0, d0, B1, d1, B2, d2, rfl, PD', PM', hE6, hS6, hb6, hk6⟩; have BX6 := zz (BX0.out.kept hk6 nX); have BQ6 := zz (BQ0.out.kept hk6 nQ); have LK6 := zz (LK0.out.Dk hk6 (fun j hj => .inl hj)); have hn4 := zz LK0.out.1; have hq4 := zz BX0.out.lt
  have nQ6 : ¬ PE PD' PM' (.slice B2 m3.length d2) (w.heap.size + 2) := fun h_ => by
   rcases hS6 _ h_ with h1 | h1
   ·exact nQ h1
   ·have := hq4.out; omega
  have nX6 : ¬ PE PD' PM' (.slice B2 m3.length d2) (w.heap.size + 3) := fun h_ => by
   rcases hS6 _ h_ with h1 | h1
   ·exact nX h1
   ·have := hq4.out; omega
  have S6 := zz hS6; have E6 := zz hE6; have LB6 := zz hb6; clear hE6 hS6 hb6 hk6 E0 BX0 BQ0 LB0 LK0 V0; obtain ⟨x0, x1, x2, x3, x4⟩ := BX6.out.cells; obtain ⟨k0, k1, k2, k3, k4⟩ := BX6.out.XC; obtain ⟨y0, y1, y2, y3, y4⟩ := BQ6.out.cells; obtain ⟨f0, f1, f2, f3, f4⟩ := BQ6.out.XC
  go_wp2
  refine bodyPost_ret (v := .agg #[.slice B0 m1.length d0, .slice B1 m2.length d1, .slice B2 m3.length d2, .int .i64 m4, .bool m5]) zb60 rfl ⟨B0, d0, B1, d1, B2, d2, rfl, PD', PM', (E6.out.Jj nX6).Jj nQ6, fun j hj => (S6.out j hj).imp id (fun h_ => Nat.le_trans hn4.out h_), ?_, ?_⟩
  ·exact (Xc (Xc (Xc (Xc (Xc (Xc (Xc (Xc (Xc (Xc LB6.out HZ3.out) HZ3.out) HZ3.out) HZ3.out) HZ3.out) HZ2.out) HZ2.out) HZ2.out) HZ2.out) HZ2.out)
  ·exact ((((((((((LK6.out.setCell (p := ⟨w.heap.size + 3, 0, none⟩) (.inr (Nat.le_add_right _ _)) _).setCell (p := ⟨w.heap.size + 3, 1, none⟩) (.inr (Nat.le_add_right _ _)) _).setCell (p := ⟨w.heap.size + 3, 2, none⟩) (.inr (Nat.le_add_right _ _)) _).setCell (p := ⟨w.heap.size + 3, 3, none⟩) (.inr (Nat.le_add_right _ _)) _).setCell (p := ⟨w.heap.size + 3, 4, none⟩) (.inr (Nat.le_add_right _ _)) _).setCell (p := ⟨w.heap.size + 2, 0, none⟩) (.inr (Nat.le_add_right _ _)) _).setCell (p := ⟨w.heap.size + 2, 1, none⟩) (.inr (Nat.le_add_right _ _)) _).setCell (p := ⟨w.heap.size + 2, 2, none⟩) (.inr (Nat.le_add_right _ _)) _).setCell (p := ⟨w.heap.size + 2, 3, none⟩) (.inr (Nat.le_add_right _ _)) _).setCell (p := ⟨w.heap.size + 2, 4, none⟩) (.inr (Nat.le_add_right _ _)) _)
 rw [if_neg q4] at h; have q4b : (ek == 4) = false := beq_eq_false_iff_ne.mpr q4
 by_cases q5 : ek = 5
 ·rw [if_pos q5] at h
  subst q5; clear q1b q2b q3b q4b; replace h := Option.bind_eq_some_iff.mp h; obtain ⟨⟨m1, m2, m3, m4, m5, m6⟩, hm, h⟩ := h; simp only [five, Option.some.injEq, Prod.mk.injEq] at h; obtain ⟨rfl, rfl, rfl, rfl, rfl⟩ := h; have H := zz hm; clear hm
  go_wp2_with fail
  have E0 := zz (HE.out.below (Xd (Xd (Xd (Xd (Below.refl w.heap.size w) (be A0 l0 c0 A1 l1 c1 A2 l2 c2 a3 a4)) (bv 5 tx pg sl nn AV va cV)) be0) (be A0 l0 c0 A1 l1 c1 A2 l2 c2 a3 a4))); have V0 := zz (Kd.Xz HV.out (Xd (Xd (Xd (Xd (Below.refl w.heap.size w) (be A0 l0 c0 A1 l1 c1 A2 l2 c2 a3 a4)) (bv 5 tx pg sl nn AV va cV)) be0) (be A0 l0 c0 A1 l1 c1 A2 l2 c2 a3 a4)))
  have BX0 : Aside0 (Ym ((((w.alloc (be A0 l0 c0 A1 l1 c1 A2 l2 c2 a3 a4)).alloc (bv 5 tx pg sl nn AV va cV)).alloc be0).alloc (be A0 l0 c0 A1 l1 c1 A2 l2 c2 a3 a4)) (w.heap.size + 3) (.slice A0 l0.length c0) (.slice A1 l1.length c1) (.slice A2 l2.length c2) a3 a4) := ⟨by rw [show w.heap.size + 3 = (((w.alloc (be A0 l0 c0 A1 l1 c1 A2 l2 c2 a3 a4)).alloc (bv 5 tx pg sl nn AV va cV)).alloc be0).heap.size by simp]; exact Ym.new _ _ _ _ _ _⟩
  have BQ0 : Aside0 (Ym ((((w.alloc (be A0 l0 c0 A1 l1 c1 A2 l2 c2 a3 a4)).alloc (bv 5 tx pg sl nn AV va cV)).alloc be0).alloc (be A0 l0 c0 A1 l1 c1 A2 l2 c2 a3 a4)) (w.heap.size + 2) (.slice none 0 0) (.slice none 0 0) (.slice none 0 0) 0 false) := ⟨by rw [show w.heap.size + 2 = ((w.alloc (be A0 l0 c0 A1 l1 c1 A2 l2 c2 a3 a4)).alloc (bv 5 tx pg sl nn AV va cV)).heap.size by simp]; exact XY (Ym.new _ _ _ _ _ _) _⟩
  have LB0 := zz (Xd (Xd (Xd (Xd HB.out (be A0 l0 c0 A1 l1 c1 A2 l2 c2 a3 a4)) (bv 5 tx pg sl nn AV va cV)) be0) (be A0 l0 c0 A1 l1 c1 A2 l2 c2 a3 a4)); have LK0 := zz (((((Kept.refl w (PE PD PM (.slice A2 l2.length c2))).alloc (be A0 l0 c0 A1 l1 c1 A2 l2 c2 a3 a4)).alloc (bv 5 tx pg sl nn AV va cV)).alloc be0).alloc (be A0 l0 c0 A1 l1 c1 A2 l2 c2 a3 a4)); refine (Z9.to k PD PM _ _ _ l0 l1 l2 a3 a4 tx m1 m2 m3 m4 m5 m6 w0 _ LB0.out E0.out H.out).mono ?_; rintro e w6 ⟨B0, d0, B1, d1, B2, d2, rfl, PD', PM', hE6, hS6, hb6, hk6⟩; have BX6 := zz (BX0.out.kept hk6 nX); have BQ6 := zz (BQ0.out.kept hk6 nQ); have LK6 := zz (LK0.out.Dk hk6 (fun j hj => .inl hj)); have hn4 := zz LK0.out.1; have hq4 := zz BX0.out.lt
  have nQ6 : ¬ PE PD' PM' (.slice B2 m3.length d2) (w.heap.size + 2) := fun h_ => by
   rcases hS6 _ h_ with h1 | h1
   ·exact nQ h1
   ·have := hq4.out; omega
  have nX6 : ¬ PE PD' PM' (.slice B2 m3.length d2) (w.heap.size + 3) := fun h_ => by
   rcases hS6 _ h_ with h1 | h1
   ·exact nX h1
   ·have := hq4.out; omega
  have S6 := zz hS6; have E6 := zz hE6; have LB6 := zz hb6; clear hE6 hS6 hb6 hk6 E0 BX0 BQ0 LB0 LK0 V0; obtain ⟨x0, x1, x2, x3, x4⟩ := BX6.out.cells; obtain ⟨k0, k1, k2, k3, k4⟩ := BX6.out.XC; obtain ⟨y0, y1, y2, y3, y4⟩ := BQ6.out.cells; obtain ⟨f0, f1, f2, f3, f4⟩ := BQ6.out.XC
  go_wp2
  refine bodyPost_ret (v := .agg #[.slice B0 m1.length d0, .slice B1 m2.length d1, .slice B2 m3.length d2, .int .i64 m4, .bool m5]) zb60 rfl ⟨B0, d0, B1, d1, B2, d2, rfl, PD', PM', (E6.out.Jj nX6).Jj nQ6, fun j hj => (S6.out j hj).imp id (fun h_ => Nat.le_trans hn4.out h_), ?_, ?_⟩
  ·exact (Xc (Xc (Xc (Xc (Xc (Xc (Xc (Xc (Xc (Xc LB6.out HZ3.out) HZ3.out) HZ3.out) HZ3.out) HZ3.out) HZ2.out) HZ2.out) HZ2.out) HZ2.out) HZ2.out)
  ·exact ((((((((((LK6.out.setCell (p := ⟨w.heap.size + 3, 0, none⟩) (.inr (Nat.le_add_right _ _)) _).setCell (p := ⟨w.heap.size + 3, 1, none⟩) (.inr (Nat.le_add_right _ _)) _).setCell (p := ⟨w.heap.size + 3, 2, none⟩) (.inr (Nat.le_add_right _ _)) _).setCell (p := ⟨w.heap.size + 3, 3, none⟩) (.inr (Nat.le_add_right _ _)) _).setCell (p := ⟨w.heap.size + 3, 4, none⟩) (.inr (Nat.le_add_right _ _)) _).setCell (p := ⟨w.heap.size + 2, 0, none⟩) (.inr (Nat.le_add_right _ _)) _).setCell (p := ⟨w.heap.size + 2, 1, none⟩) (.inr (Nat.le_add_right _ _)) _).setCell (p := ⟨w.heap.size + 2, 2, none⟩) (.inr (Nat.le_add_right _ _)) _).setCell (p := ⟨w.heap.size + 2, 3, none⟩) (.inr (Nat.le_add_right _ _)) _).setCell (p := ⟨w.heap.size + 2, 4, none⟩) (.inr (Nat.le_add_right _ _)) _)
 rw [if_neg q5] at h; have q5b : (ek == 5) = false := beq_eq_false_iff_ne.mpr q5
 by_cases q6 : ek = 6
 ·rw [if_pos q6] at h
  subst q6; clear q1b q2b q3b q4b q5b
  cases a4 with
  | true =>
   simp only [if_true] at h; simp only [Option.some.injEq, Prod.mk.injEq] at h; obtain ⟨rfl, rfl, rfl, rfl, rfl⟩ := h
   go_wp2
   refine bodyPost_ret (v := .agg #[.slice A0 l0.length c0, .slice A1 l1.length c1, .slice A2 l2.length c2, .int .i64 a3, .bool true]) zb60 rfl ⟨A0, c0, A1, c1, A2, c2, rfl, PD, PM, HE.out.below (Xd (Xd (Xd (Xd (Below.refl w.heap.size w) _) _) _) _), fun j hj => .inl hj, ?_, ?_⟩
   ·exact (Xd (Xd (Xd (Xd HB.out _) _) _) _)
   ·exact ((((Kept.refl w _).alloc _).alloc _).alloc _).alloc _
  | false =>
   simp only [Bool.false_eq_true, if_false] at h; replace h := Option.bind_eq_some_iff.mp h; obtain ⟨b1, hb1, h⟩ := h; have A1_ := zz hb1; have H := zz h; clear hb1 h
   go_wp2_with fail
   have E0 := zz (HE.out.below (Xd (Xd (Xd (Xd (Below.refl w.heap.size w) (be A0 l0 c0 A1 l1 c1 A2 l2 c2 a3 false)) (bv 6 tx pg sl nn AV va cV)) be0) (be A0 l0 c0 A1 l1 c1 A2 l2 c2 a3 false))); have V0 := zz (Kd.Xz HV.out (Xd (Xd (Xd (Xd (Below.refl w.heap.size w) (be A0 l0 c0 A1 l1 c1 A2 l2 c2 a3 false)) (bv 6 tx pg sl nn AV va cV)) be0) (be A0 l0 c0 A1 l1 c1 A2 l2 c2 a3 false)))
   have BX0 : Aside0 (Ym ((((w.alloc (be A0 l0 c0 A1 l1 c1 A2 l2 c2 a3 false)).alloc (bv 6 tx pg sl nn AV va cV)).alloc be0).alloc (be A0 l0 c0 A1 l1 c1 A2 l2 c2 a3 false)) (w.heap.size + 3) (.slice A0 l0.length c0) (.slice A1 l1.length c1) (.slice A2 l2.length c2) a3 false) := ⟨by rw [show w.heap.size + 3 = (((w.alloc (be A0 l0 c0 A1 l1 c1 A2 l2 c2 a3 false)).alloc (bv 6 tx pg sl nn AV va cV)).alloc be0).heap.size by simp]; exact Ym.new _ _ _ _ _ _⟩
   have BQ0 : Aside0 (Ym ((((w.alloc (be A0 l0 c0 A1 l1 c1 A2 l2 c2 a3 false)).alloc (bv 6 tx pg sl nn AV va cV)).alloc be0).alloc (be A0 l0 c0 A1 l1 c1 A2 l2 c2 a3 false)) (w.heap.size + 2) (.slice none 0 0) (.slice none 0 0) (.slice none 0 0) 0 false) := ⟨by rw [show w.heap.size + 2 = ((w.alloc (be A0 l0 c0 A1 l1 c1 A2 l2 c2 a3 false)).alloc (bv 6 tx pg sl nn AV va cV)).heap.size by simp]; exact XY (Ym.new _ _ _ _ _ _) _⟩
   have LB0 := zz (Xd (Xd (Xd (Xd HB.out (be A0 l0 c0 A1 l1 c1 A2 l2 c2 a3 false)) (bv 6 tx pg sl nn AV va cV)) be0) (be A0 l0 c0 A1 l1 c1 A2 l2 c2 a3 false)); have LK0 := zz (((((Kept.refl w (PE PD PM (.slice A2 l2.length c2))).alloc (be A0 l0 c0 A1 l1 c1 A2 l2 c2 a3 false)).alloc (bv 6 tx pg sl nn AV va cV)).alloc be0).alloc (be A0 l0 c0 A1 l1 c1 A2 l2 c2 a3 false))
   have BE0 : Aside0 (Ym ((((w.alloc (be A0 l0 c0 A1 l1 c1 A2 l2 c2 a3 false)).alloc (bv 6 tx pg sl nn AV va cV)).alloc be0).alloc (be A0 l0 c0 A1 l1 c1 A2 l2 c2 a3 false)) w.heap.size (.slice A0 l0.length c0) (.slice A1 l1.length c1) (.slice A2 l2.length c2) a3 false) := ⟨XY (XY (XY (Ym.new _ _ _ _ _ _) _) _) _⟩
   have BV0 : Aside0 (((((w.alloc (be A0 l0 c0 A1 l1 c1 A2 l2 c2 a3 false)).alloc (bv 6 tx pg sl nn AV va cV)).alloc be0).alloc (be A0 l0 c0 A1 l1 c1 A2 l2 c2 a3 false)).heap[w.heap.size + 1]? = some (.cells #[.int .i64 6, .int .i64 tx, .int .i64 pg, .int .i64 sl, .int .i64 nn, .slice AV va.length cV] 109 (0, 0))) := ⟨by rw [show w.heap.size + 1 = (w.alloc (be A0 l0 c0 A1 l1 c1 A2 l2 c2 a3 false)).heap.size by simp]; exact XY (XY (KH _ _) _) _⟩
   refine (Ya.calls pg 0 4 b1 _ A1_.out).mono ?_; rintro e w1 ⟨rfl, nd, hw⟩; have hb := Vd hw; clear hw nd; have E1 := zz (E0.out.below hb); have BX1 := zz (BX0.out.below hb); have BQ1 := zz (BQ0.out.below hb); have BE1 := zz (BE0.out.below hb); have BV1 := zz (Z7 BV0.out hb); have LB1 := zz (Xe LB0.out hb); have LK1 := zz (LK0.out.below hb); clear hb E0 BX0 BQ0 BE0 BV0 LB0 LK0 V0; have h := H.out; clear H
   cases b1 with
   | false =>
    simp only [Bool.false_eq_true, if_false] at h; simp only [Option.some.injEq, Prod.mk.injEq] at h; obtain ⟨rfl, rfl, rfl, rfl, rfl⟩ := h; obtain ⟨x0, x1, x2, x3, x4⟩ := BX1.out.cells; obtain ⟨y0, y1, y2, y3, y4⟩ := BQ1.out.cells; obtain ⟨f0, f1, f2, f3, f4⟩ := BQ1.out.XC
    go_wp2
    refine bodyPost_ret (v := .agg #[.slice A0 l0.length c0, .slice A1 l1.length c1, .slice A2 l2.length c2, .int .i64 a3, .bool false]) zb60 rfl ⟨A0, c0, A1, c1, A2, c2, rfl, PD, PM, E1.out.Jj nQ, fun j hj => .inl hj, ?_, ?_⟩
    ·exact (Xc (Xc (Xc (Xc (Xc LB1.out HZ2.out) HZ2.out) HZ2.out) HZ2.out) HZ2.out)
    ·exact (((((LK1.out.setCell (p := ⟨w.heap.size + 2, 0, none⟩) (.inr (Nat.le_add_right _ _)) _).setCell (p := ⟨w.heap.size + 2, 1, none⟩) (.inr (Nat.le_add_right _ _)) _).setCell (p := ⟨w.heap.size + 2, 2, none⟩) (.inr (Nat.le_add_right _ _)) _).setCell (p := ⟨w.heap.size + 2, 3, none⟩) (.inr (Nat.le_add_right _ _)) _).setCell (p := ⟨w.heap.size + 2, 4, none⟩) (.inr (Nat.le_add_right _ _)) _)
   | true =>
    simp only [if_true] at h; have H := zz h; clear h; obtain ⟨g0, g1, g2, g3, g4⟩ := BE1.out.cells; have g5 : w1.cell? ⟨w.heap.size + 1, 2, none⟩ = some (.int .i64 pg) := (Xy BV1.out 2).trans rfl
    go_wp2_with fail
    clear g0 g1 g2 g3 g4 g5; have BX0 := BX1; have BQ0 := BQ1; have LB0 := LB1; have LK0 := LK1; have E0 := E1
    have V0 : Aside0 True := ⟨trivial⟩
    refine (Yg.to PD PM _ _ _ l0 l1 l2 a3 false pg r1 r2 r3 r4 r5 w0 _ LB0.out E0.out H.out).mono ?_; rintro e w6 ⟨B0, d0, B1, d1, B2, d2, rfl, PD', PM', hE6, hS6, hb6, hk6⟩; have BX6 := zz (BX0.out.kept hk6 nX); have BQ6 := zz (BQ0.out.kept hk6 nQ); have LK6 := zz (LK0.out.Dk hk6 (fun j hj => .inl hj)); have hn4 := zz LK0.out.1; have hq4 := zz BX0.out.lt
    have nQ6 : ¬ PE PD' PM' (.slice B2 r3.length d2) (w.heap.size + 2) := fun h_ => by
     rcases hS6 _ h_ with h1 | h1
     ·exact nQ h1
     ·have := hq4.out; omega
    have nX6 : ¬ PE PD' PM' (.slice B2 r3.length d2) (w.heap.size + 3) := fun h_ => by
     rcases hS6 _ h_ with h1 | h1
     ·exact nX h1
     ·have := hq4.out; omega
    have S6 := zz hS6; have E6 := zz hE6; have LB6 := zz hb6; clear hE6 hS6 hb6 hk6 E0 BX0 BQ0 LB0 LK0 V0; obtain ⟨x0, x1, x2, x3, x4⟩ := BX6.out.cells; obtain ⟨k0, k1, k2, k3, k4⟩ := BX6.out.XC; obtain ⟨y0, y1, y2, y3, y4⟩ := BQ6.out.cells; obtain ⟨f0, f1, f2, f3, f4⟩ := BQ6.out.XC
    go_wp2
    refine bodyPost_ret (v := .agg #[.slice B0 r1.length d0, .slice B1 r2.length d1, .slice B2 r3.length d2, .int .i64 r4, .bool r5]) zb60 rfl ⟨B0, d0, B1, d1, B2, d2, rfl, PD', PM', (E6.out.Jj nX6).Jj nQ6, fun j hj => (S6.out j hj).imp id (fun h_ => Nat.le_trans hn4.out h_), ?_, ?_⟩
    ·exact (Xc (Xc (Xc (Xc (Xc (Xc (Xc (Xc (Xc (Xc LB6.out HZ3.out) HZ3.out) HZ3.out) HZ3.out) HZ3.out) HZ2.out) HZ2.out) HZ2.out) HZ2.out) HZ2.out)
    ·exact ((((((((((LK6.out.setCell (p := ⟨w.heap.size + 3, 0, none⟩) (.inr (Nat.le_add_right _ _)) _).setCell (p := ⟨w.heap.size + 3, 1, none⟩) (.inr (Nat.le_add_right _ _)) _).setCell (p := ⟨w.heap.size + 3, 2, none⟩) (.inr (Nat.le_add_right _ _)) _).setCell (p := ⟨w.heap.size + 3, 3, none⟩) (.inr (Nat.le_add_right _ _)) _).setCell (p := ⟨w.heap.size + 3, 4, none⟩) (.inr (Nat.le_add_right _ _)) _).setCell (p := ⟨w.heap.size + 2, 0, none⟩) (.inr (Nat.le_add_right _ _)) _).setCell (p := ⟨w.heap.size + 2, 1, none⟩) (.inr (Nat.le_add_right _ _)) _).setCell (p := ⟨w.heap.size + 2, 2, none⟩) (.inr (Nat.le_add_right _ _)) _).setCell (p := ⟨w.heap.size + 2, 3, none⟩) (.inr (Nat.le_add_right _ _)) _).setCell (p := ⟨w.heap.size + 2, 4, none⟩) (.inr (Nat.le_add_right _ _)) _)
 rw [if_neg q6] at h; have q6b : (ek == 6) = false := beq_eq_false_iff_ne.mpr q6
 by_cases q7 : ek = 7
 ·rw [if_pos q7] at h
  subst q7; clear q1b q2b q3b q4b q5b q6b
  cases a4 with
  | true =>
   simp only [if_true] at h; simp only [Option.some.injEq, Prod.mk.injEq] at h; obtain ⟨rfl, rfl, rfl, rfl, rfl⟩ := h
   go_wp2
   refine bodyPost_ret (v := .agg #[.slice A0 l0.length c0, .slice A1 l1.length c1, .slice A2 l2.length c2, .int .i64 a3, .bool true]) zb60 rfl ⟨A0, c0, A1, c1, A2, c2, rfl, PD, PM, HE.out.below (Xd (Xd (Xd (Xd (Below.refl w.heap.size w) _) _) _) _), fun j hj => .inl hj, ?_, ?_⟩
   ·exact (Xd (Xd (Xd (Xd HB.out _) _) _) _)
   ·exact ((((Kept.refl w _).alloc _).alloc _).alloc _).alloc _
  | false =>
   simp only [Bool.false_eq_true, if_false] at h; simp only [Option.some.injEq, Prod.mk.injEq] at h; obtain ⟨rfl, rfl, rfl, rfl, rfl⟩ := h
   go_wp2
   refine bodyPost_ret (v := .agg #[.slice A0 l0.length c0, .slice A1 l1.length c1, .slice A2 l2.length c2, .int .i64 (l2.length : Int), .bool false]) zb60 rfl ⟨A0, c0, A1, c1, A2, c2, rfl, PD, PM, HE.out.below (Xd (Xd (Xd (Xd (Below.refl w.heap.size w) _) _) _) _), fun j hj => .inl hj, ?_, ?_⟩
   ·exact (Xd (Xd (Xd (Xd HB.out _) _) _) _)
   ·exact ((((Kept.refl w _).alloc _).alloc _).alloc _).alloc _
 rw [if_neg q7] at h; have q7b : (ek == 7) = false := beq_eq_false_iff_ne.mpr q7
 by_cases q8 : ek = 8
 ·rw [if_pos q8] at h
  subst q8; clear q1b q2b q3b q4b q5b q6b q7b
  by_cases q : 0 ≤ nn
  ·rw [if_pos q] at h
   have qb : decide (0 ≤ nn) = true := decide_eq_true q; have H := zz h; clear h q
   go_wp2_with fail
   have E0 := zz (HE.out.below (Xd (Xd (Xd (Xd (Below.refl w.heap.size w) (be A0 l0 c0 A1 l1 c1 A2 l2 c2 a3 a4)) (bv 8 tx pg sl nn AV va cV)) be0) (be A0 l0 c0 A1 l1 c1 A2 l2 c2 a3 a4))); have V0 := zz (Kd.Xz HV.out (Xd (Xd (Xd (Xd (Below.refl w.heap.size w) (be A0 l0 c0 A1 l1 c1 A2 l2 c2 a3 a4)) (bv 8 tx pg sl nn AV va cV)) be0) (be A0 l0 c0 A1 l1 c1 A2 l2 c2 a3 a4)))
   have BX0 : Aside0 (Ym ((((w.alloc (be A0 l0 c0 A1 l1 c1 A2 l2 c2 a3 a4)).alloc (bv 8 tx pg sl nn AV va cV)).alloc be0).alloc (be A0 l0 c0 A1 l1 c1 A2 l2 c2 a3 a4)) (w.heap.size + 3) (.slice A0 l0.length c0) (.slice A1 l1.length c1) (.slice A2 l2.length c2) a3 a4) := ⟨by rw [show w.heap.size + 3 = (((w.alloc (be A0 l0 c0 A1 l1 c1 A2 l2 c2 a3 a4)).alloc (bv 8 tx pg sl nn AV va cV)).alloc be0).heap.size by simp]; exact Ym.new _ _ _ _ _ _⟩
   have BQ0 : Aside0 (Ym ((((w.alloc (be A0 l0 c0 A1 l1 c1 A2 l2 c2 a3 a4)).alloc (bv 8 tx pg sl nn AV va cV)).alloc be0).alloc (be A0 l0 c0 A1 l1 c1 A2 l2 c2 a3 a4)) (w.heap.size + 2) (.slice none 0 0) (.slice none 0 0) (.slice none 0 0) 0 false) := ⟨by rw [show w.heap.size + 2 = ((w.alloc (be A0 l0 c0 A1 l1 c1 A2 l2 c2 a3 a4)).alloc (bv 8 tx pg sl nn AV va cV)).heap.size by simp]; exact XY (Ym.new _ _ _ _ _ _) _⟩
   have LB0 := zz (Xd (Xd (Xd (Xd HB.out (be A0 l0 c0 A1 l1 c1 A2 l2 c2 a3 a4)) (bv 8 tx pg sl nn AV va cV)) be0) (be A0 l0 c0 A1 l1 c1 A2 l2 c2 a3 a4)); have LK0 := zz (((((Kept.refl w (PE PD PM (.slice A2 l2.length c2))).alloc (be A0 l0 c0 A1 l1 c1 A2 l2 c2 a3 a4)).alloc (bv 8 tx pg sl nn AV va cV)).alloc be0).alloc (be A0 l0 c0 A1 l1 c1 A2 l2 c2 a3 a4)); refine (De.to k PD PM _ _ _ l0 l1 l2 a3 a4 nn r1 r2 r3 r4 r5 w0 _ LB0.out E0.out H.out).mono ?_; rintro e w6 ⟨B0, d0, B1, d1, B2, d2, rfl, PD', PM', hE6, hS6, hb6, hk6⟩; have BX6 := zz (BX0.out.kept hk6 nX); have BQ6 := zz (BQ0.out.kept hk6 nQ); have LK6 := zz (LK0.out.Dk hk6 (fun j hj => .inl hj)); have hn4 := zz LK0.out.1; have hq4 := zz BX0.out.lt
   have nQ6 : ¬ PE PD' PM' (.slice B2 r3.length d2) (w.heap.size + 2) := fun h_ => by
    rcases hS6 _ h_ with h1 | h1
    ·exact nQ h1
    ·have := hq4.out; omega
   have nX6 : ¬ PE PD' PM' (.slice B2 r3.length d2) (w.heap.size + 3) := fun h_ => by
    rcases hS6 _ h_ with h1 | h1
    ·exact nX h1
    ·have := hq4.out; omega
   have S6 := zz hS6; have E6 := zz hE6; have LB6 := zz hb6; clear hE6 hS6 hb6 hk6 E0 BX0 BQ0 LB0 LK0 V0; obtain ⟨x0, x1, x2, x3, x4⟩ := BX6.out.cells; obtain ⟨k0, k1, k2, k3, k4⟩ := BX6.out.XC; obtain ⟨y0, y1, y2, y3, y4⟩ := BQ6.out.cells; obtain ⟨f0, f1, f2, f3, f4⟩ := BQ6.out.XC
   go_wp2
   refine bodyPost_ret (v := .agg #[.slice B0 r1.length d0, .slice B1 r2.length d1, .slice B2 r3.length d2, .int .i64 r4, .bool r5]) zb60 rfl ⟨B0, d0, B1, d1, B2, d2, rfl, PD', PM', (E6.out.Jj nX6).Jj nQ6, fun j hj => (S6.out j hj).imp id (fun h_ => Nat.le_trans hn4.out h_), ?_, ?_⟩
   ·exact (Xc (Xc (Xc (Xc (Xc (Xc (Xc (Xc (Xc (Xc LB6.out HZ3.out) HZ3.out) HZ3.out) HZ3.out) HZ3.out) HZ2.out) HZ2.out) HZ2.out) HZ2.out) HZ2.out)
   ·exact ((((((((((LK6.out.setCell (p := ⟨w.heap.size + 3, 0, none⟩) (.inr (Nat.le_add_right _ _)) _).setCell (p := ⟨w.heap.size + 3, 1, none⟩) (.inr (Nat.le_add_right _ _)) _).setCell (p := ⟨w.heap.size + 3, 2, none⟩) (.inr (Nat.le_add_right _ _)) _).setCell (p := ⟨w.heap.size + 3, 3, none⟩) (.inr (Nat.le_add_right _ _)) _).setCell (p := ⟨w.heap.size + 3, 4, none⟩) (.inr (Nat.le_add_right _ _)) _).setCell (p := ⟨w.heap.size + 2, 0, none⟩) (.inr (Nat.le_add_right _ _)) _).setCell (p := ⟨w.heap.size + 2, 1, none⟩) (.inr (Nat.le_add_right _ _)) _).setCell (p := ⟨w.heap.size + 2, 2, none⟩) (.inr (Nat.le_add_right _ _)) _).setCell (p := ⟨w.heap.size + 2, 3, none⟩) (.inr (Nat.le_add_right _ _)) _).setCell (p := ⟨w.heap.size + 2, 4, none⟩) (.inr (Nat.le_add_right _ _)) _)
  ·rw [if_neg q] at h
   have qb : decide (0 ≤ nn) = false := decide_eq_false q; clear q; simp only [Option.some.injEq, Prod.mk.injEq] at h; obtain ⟨rfl, rfl, rfl, rfl, rfl⟩ := h
   go_wp2
   refine bodyPost_ret (v := .agg #[.slice A0 l0.length c0, .slice A1 l1.length c1, .slice A2 l2.length c2, .int .i64 a3, .bool a4]) zb60 rfl ⟨A0, c0, A1, c1, A2, c2, rfl, PD, PM, HE.out.below (Xd (Xd (Xd (Xd (Below.refl w.heap.size w) _) _) _) _), fun j hj => .inl hj, ?_, ?_⟩
   ·exact (Xd (Xd (Xd (Xd HB.out _) _) _) _)
   ·exact ((((Kept.refl w _).alloc _).alloc _).alloc _).alloc _
 rw [if_neg q8] at h; have q8b : (ek == 8) = false := beq_eq_false_iff_ne.mpr q8
 by_cases q9 : ek = 9
 ·rw [if_pos q9] at h
  subst q9; clear q1b q2b q3b q4b q5b q6b q7b q8b
  by_cases q : 0 ≤ nn
  ·rw [if_pos q] at h
   have qb : decide (0 ≤ nn) = true := decide_eq_true q; clear q
   cases a4 with
   | true =>
    simp only [if_true] at h; replace h := Option.bind_eq_some_iff.mp h; obtain ⟨⟨m1, m2, m3, m4, m5, m6⟩, hm, h⟩ := h; simp only [five, Option.some.injEq, Prod.mk.injEq] at h; obtain ⟨rfl, rfl, rfl, rfl, rfl⟩ := h; have H := zz hm; clear hm
    go_wp2_with fail
    have E0 := zz (HE.out.below (Xd (Xd (Xd (Xd (Below.refl w.heap.size w) (be A0 l0 c0 A1 l1 c1 A2 l2 c2 a3 true)) (bv 9 tx pg sl nn AV va cV)) be0) (be A0 l0 c0 A1 l1 c1 A2 l2 c2 a3 true))); have V0 := zz (Kd.Xz HV.out (Xd (Xd (Xd (Xd (Below.refl w.heap.size w) (be A0 l0 c0 A1 l1 c1 A2 l2 c2 a3 true)) (bv 9 tx pg sl nn AV va cV)) be0) (be A0 l0 c0 A1 l1 c1 A2 l2 c2 a3 true)))
    have BX0 : Aside0 (Ym ((((w.alloc (be A0 l0 c0 A1 l1 c1 A2 l2 c2 a3 true)).alloc (bv 9 tx pg sl nn AV va cV)).alloc be0).alloc (be A0 l0 c0 A1 l1 c1 A2 l2 c2 a3 true)) (w.heap.size + 3) (.slice A0 l0.length c0) (.slice A1 l1.length c1) (.slice A2 l2.length c2) a3 true) := ⟨by rw [show w.heap.size + 3 = (((w.alloc (be A0 l0 c0 A1 l1 c1 A2 l2 c2 a3 true)).alloc (bv 9 tx pg sl nn AV va cV)).alloc be0).heap.size by simp]; exact Ym.new _ _ _ _ _ _⟩
    have BQ0 : Aside0 (Ym ((((w.alloc (be A0 l0 c0 A1 l1 c1 A2 l2 c2 a3 true)).alloc (bv 9 tx pg sl nn AV va cV)).alloc be0).alloc (be A0 l0 c0 A1 l1 c1 A2 l2 c2 a3 true)) (w.heap.size + 2) (.slice none 0 0) (.slice none 0 0) (.slice none 0 0) 0 false) := ⟨by rw [show w.heap.size + 2 = ((w.alloc (be A0 l0 c0 A1 l1 c1 A2 l2 c2 a3 true)).alloc (bv 9 tx pg sl nn AV va cV)).heap.size by simp]; exact XY (Ym.new _ _ _ _ _ _) _⟩
    have LB0 := zz (Xd (Xd (Xd (Xd HB.out (be A0 l0 c0 A1 l1 c1 A2 l2 c2 a3 true)) (bv 9 tx pg sl nn AV va cV)) be0) (be A0 l0 c0 A1 l1 c1 A2 l2 c2 a3 true)); have LK0 := zz (((((Kept.refl w (PE PD PM (.slice A2 l2.length c2))).alloc (be A0 l0 c0 A1 l1 c1 A2 l2 c2 a3 true)).alloc (bv 9 tx pg sl nn AV va cV)).alloc be0).alloc (be A0 l0 c0 A1 l1 c1 A2 l2 c2 a3 true)); refine (Zb.to k PD PM _ _ _ l0 l1 l2 a3 true nn m1 m2 m3 m4 m5 m6 w0 _ LB0.out E0.out H.out).mono ?_; rintro e w6 ⟨B0, d0, B1, d1, B2, d2, rfl, PD', PM', hE6, hS6, hb6, hk6⟩; have BX6 := zz (BX0.out.kept hk6 nX); have BQ6 := zz (BQ0.out.kept hk6 nQ); have LK6 := zz (LK0.out.Dk hk6 (fun j hj => .inl hj)); have hn4 := zz LK0.out.1; have hq4 := zz BX0.out.lt
    have nQ6 : ¬ PE PD' PM' (.slice B2 m3.length d2) (w.heap.size + 2) := fun h_ => by
     rcases hS6 _ h_ with h1 | h1
     ·exact nQ h1
     ·have := hq4.out; omega
    have nX6 : ¬ PE PD' PM' (.slice B2 m3.length d2) (w.heap.size + 3) := fun h_ => by
     rcases hS6 _ h_ with h1 | h1
     ·exact nX h1
     ·have := hq4.out; omega
    have S6 := zz hS6; have E6 := zz hE6; have LB6 := zz hb6; clear hE6 hS6 hb6 hk6 E0 BX0 BQ0 LB0 LK0 V0; obtain ⟨x0, x1, x2, x3, x4⟩ := BX6.out.cells; obtain ⟨k0, k1, k2, k3, k4⟩ := BX6.out.XC; obtain ⟨y0, y1, y2, y3, y4⟩ := BQ6.out.cells; obtain ⟨f0, f1, f2, f3, f4⟩ := BQ6.out.XC
    go_wp2
    refine bodyPost_ret (v := .agg #[.slice B0 m1.length d0, .slice B1 m2.length d1, .slice B2 m3.length d2, .int .i64 m4, .bool m5]) zb60 rfl ⟨B0, d0, B1, d1, B2, d2, rfl, PD', PM', (E6.out.Jj nX6).Jj nQ6, fun j hj => (S6.out j hj).imp id (fun h_ => Nat.le_trans hn4.out h_), ?_, ?_⟩
    ·exact (Xc (Xc (Xc (Xc (Xc (Xc (Xc (Xc (Xc (Xc LB6.out HZ3.out) HZ3.out) HZ3.out) HZ3.out) HZ3.out) HZ2.out) HZ2.out) HZ2.out) HZ2.out) HZ2.out)
    ·exact ((((((((((LK6.out.setCell (p := ⟨w.heap.size + 3, 0, none⟩) (.inr (Nat.le_add_right _ _)) _).setCell (p := ⟨w.heap.size + 3, 1, none⟩) (.inr (Nat.le_add_right _ _)) _).setCell (p := ⟨w.heap.size + 3, 2, none⟩) (.inr (Nat.le_add_right _ _)) _).setCell (p := ⟨w.heap.size + 3, 3, none⟩) (.inr (Nat.le_add_right _ _)) _).setCell (p := ⟨w.heap.size + 3, 4, none⟩) (.inr (Nat.le_add_right _ _)) _).setCell (p := ⟨w.heap.size + 2, 0, none⟩) (.inr (Nat.le_add_right _ _)) _).setCell (p := ⟨w.heap.size + 2, 1, none⟩) (.inr (Nat.le_add_right _ _)) _).setCell (p := ⟨w.heap.size + 2, 2, none⟩) (.inr (Nat.le_add_right _ _)) _).setCell (p := ⟨w.heap.size + 2, 3, none⟩) (.inr (Nat.le_add_right _ _)) _).setCell (p := ⟨w.heap.size + 2, 4, none⟩) (.inr (Nat.le_add_right _ _)) _)
   | false =>
    simp only [Bool.false_eq_true, if_false] at h; simp only [Option.some.injEq, Prod.mk.injEq] at h; obtain ⟨rfl, rfl, rfl, rfl, rfl⟩ := h
    go_wp2
    refine bodyPost_ret (v := .agg #[.slice A0 l0.length c0, .slice A1 l1.length c1, .slice A2 l2.length c2, .int .i64 a3, .bool false]) zb60 rfl ⟨A0, c0, A1, c1, A2, c2, rfl, PD, PM, HE.out.below (Xd (Xd (Xd (Xd (Below.refl w.heap.size w) _) _) _) _), fun j hj => .inl hj, ?_, ?_⟩
    ·exact (Xd (Xd (Xd (Xd HB.out _) _) _) _)
    ·exact ((((Kept.refl w _).alloc _).alloc _).alloc _).alloc _
  ·rw [if_neg q] at h
   have qb : decide (0 ≤ nn) = false := decide_eq_false q; clear q; simp only [Option.some.injEq, Prod.mk.injEq] at h; obtain ⟨rfl, rfl, rfl, rfl, rfl⟩ := h
   go_wp2
   refine bodyPost_ret (v := .agg #[.slice A0 l0.length c0, .slice A1 l1.length c1, .slice A2 l2.length c2, .int .i64 a3, .bool a4]) zb60 rfl ⟨A0, c0, A1, c1, A2, c2, rfl, PD, PM, HE.out.below (Xd (Xd (Xd (Xd (Below.refl w.heap.size w) _) _) _) _), fun j hj => .inl hj, ?_, ?_⟩
   ·exact (Xd (Xd (Xd (Xd HB.out _) _) _) _)
   ·exact ((((Kept.refl w _).alloc _).alloc _).alloc _).alloc _
 rw [if_neg q9] at h; have q9b : (ek == 9) = false := beq_eq_false_iff_ne.mpr q9; simp only [Option.some.injEq, Prod.mk.injEq] at h; obtain ⟨rfl, rfl, rfl, rfl, rfl⟩ := h
 go_wp2
 refine bodyPost_ret (v := .agg #[.slice A0 l0.length c0, .slice A1 l1.length c1, .slice A2 l2.length c2, .int .i64 a3, .bool a4]) zb60 rfl ⟨A0, c0, A1, c1, A2, c2, rfl, PD, PM, HE.out.below (Xd (Xd (Xd (Xd (Below.refl w.heap.size w) _) _) _) _), fun j hj => .inl hj, ?_, ?_⟩
 ·exact (Xd (Xd (Xd (Xd HB.out _) _) _) _)
 ·exact ((((Kept.refl w _).alloc _).alloc _).alloc _).alloc _
end Go.Proofs.Ytcefiblpnegepaa.Pr
