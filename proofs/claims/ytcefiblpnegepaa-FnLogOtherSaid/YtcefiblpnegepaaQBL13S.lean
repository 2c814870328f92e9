import Derived.Test.YtcefiblpnegepaaQBByq
import Derived.Test.YtcefiblpnegepaaQBSh
import Derived.Test.YtcefiblpnegepaaQBL12A
import Derived.Test.YtcefiblpnegepaaQBPrBk
import Derived.Test.YtcefiblpnegepaaQBPrMay
namespace Go.Proofs.Ytcefiblpnegepaa.Pr
open Go.RowKit Go.PW Go.PL Go.PM
attribute [local go_sem] Y3 Y4 YV YW Yk Yl Y5 Y6
set_option linter.unusedVariables false
set_option linter.unusedSimpArgs false
abbrev Xpc : Array Bool := #[false, false, false, false, false, false, false, false, false, false, false, false, false, false, false, false]
abbrev Xpd : Array Bool := #[false, true, false, false, false, false, false, false, false, false, false, false, false, false, false, false]
abbrev Xpe : Array Bool := #[false, true, false, true, false, false, false, false, false, false, false, false, false, false, false, false]
abbrev Xpf : Array Bool := #[false, true, false, true, true, false, false, false, false, false, false, false, false, false, false, false]
abbrev Xpg : Array Bool := #[false, true, false, true, true, false, false, true, false, false, false, false, false, false, false, false]
abbrev Xph : Array Bool := #[true, true, false, true, true, false, false, true, false, false, false, false, false, false, false, false]
abbrev Xpi : Array Bool := #[true, true, true, true, true, false, false, true, false, false, false, false, false, false, false, false]
abbrev Xpj : Array Bool := #[true, true, true, true, true, true, false, true, false, false, false, false, false, false, false, false]
abbrev Xpk : Array Bool := #[true, true, true, true, true, true, false, true, false, false, false, false, false, true, false, false]
abbrev Xpl : Array Bool := #[true, true, true, true, true, true, true, true, false, false, false, false, false, false, false, false]
abbrev Xdk : Array Bool := #[true, true, true, true, true, true, true, true, false, false, false, false, false, true, false, false]
abbrev Xkv : Array Bool := #[true, true, true, true, true, true, true, true, true, false, false, false, false, false, false, false]
abbrev Qm : Array Bool := #[true, true, true, true, true, true, true, true, true, false, false, false, false, true, false, false]
abbrev Xkw : Array Bool := #[true, true, true, true, true, true, true, true, true, true, false, false, false, false, false, false]
abbrev Qn : Array Bool := #[true, true, true, true, true, true, true, true, true, true, false, false, false, true, false, false]
abbrev Xkx : Array Bool := #[true, true, true, true, true, true, true, true, true, true, true, false, false, false, false, false]
abbrev Qo : Array Bool := #[true, true, true, true, true, true, true, true, true, true, true, false, false, true, false, false]
abbrev Xky : Array Bool := #[true, true, true, true, true, true, true, true, true, true, true, true, false, false, false, false]
abbrev Qp : Array Bool := #[true, true, true, true, true, true, true, true, true, true, true, true, false, true, false, false]
abbrev Xkz : Array Bool := #[true, true, true, true, true, true, true, true, true, true, true, true, true, false, false, false]
abbrev RX : Array Bool := #[true, true, true, true, true, true, true, true, true, true, true, true, true, true, false, false]
abbrev RY : Array Bool := #[true, true, true, true, true, true, true, true, true, true, true, true, true, true, true, false]
abbrev RZ : Array Bool := #[true, true, true, true, true, true, true, true, true, true, true, true, true, true, true, true]
def five (x : List S25 × List S25 × List S41 × Int × Bool × Bool) : Option (List S25 × List S25 × List S41 × Int × Bool) := some (x.1, x.2.1, x.2.2.1, x.2.2.2.1, x.2.2.2.2.1)
def Zj.f (k : Nat) (l0 l1 : List S25) (l2 : List S41) (a3 : Int) (a4 : Bool) (tx : Int) : Option (List S25 × List S25 × List S41 × Int × Bool) := (Xu.f k l2 tx).bind fun n0 => (XU.f k l2 n0).bind fun n1 => if n1 = 0 then (XM.f k l0 l1 l2 a3 a4 5 tx 0 0 0 0 0 0).bind five else (if 0 ≤ wrap64 (n1 - 1) then (if wrap64 (n1 - 1) < (l2.length : Int) then (XM.f k l0 l1 l2 a3 a4 6 (Xa l2 (wrap64 (n1 - 1))).f1 (Xa l2 (wrap64 (n1 - 1))).f2 (Xa l2 (wrap64 (n1 - 1))).f3 0 (Xa l2 (wrap64 (n1 - 1))).f4 n0 (Xa l2 (wrap64 (n1 - 1))).f6).bind five else none) else none)
def Zj.T6 : Bool × List (List Nat × List Nat) := (true, [([], []), ([], []), ([1], [1]), ([], []), ([3], [3]), ([2, 4], [2, 4]), ([5], [5]), ([], []), ([6, 7], [6, 7]), ([0, 8, 8], [0, 8]), ([9], [9]), ([10], [10]), ([10], [10]), ([], []), ([13, 11, 9, 0, 1, 2, 3, 4, 5, 6, 7, 8, 9, 10, 11, 13], [11, 13]), ([12, 14, 0, 1, 2, 3, 4, 5, 6, 7, 8, 9, 10, 11, 12, 13, 14], [12])])
def Zj.B6 : List Nat := [0, 0, 2, 0, 8, 30, 62, 0, 254, 511, 1023, 2047, 2047, 0, 12287, 32767]
theorem Zj.XgP : JG .any (opsOf Try.f155 6) = Zj.T6 := by kernel_rfl
theorem Zj.Xay : Jh Zj.T6.2 Zj.B6 = true := by kernel_rfl
set_option maxHeartbeats 8000000 in
set_option maxRecDepth 100000 in
theorem Zj.to (k : Nat) (PD PM : Nat → Prop) (v0 v1 v2 : Value) (l0 l1 : List S25) (l2 : List S41) (a3 : Int) (a4 : Bool) (tx : Int) (r1 r2 : List S25) (r3 : List S41) (r4 : Int) (r5 : Bool) (w0 w : World) (hB : Below w0.heap.size w0 w) (hE : VG w0 w PD PM v0 v1 v2 l0 l1 l2)
 (h : Zj.f k l0 l1 l2 a3 a4 tx = some (r1, r2, r3, r4, r5)) :
 Calls Try.prog 155 #[.agg #[v0, v1, v2, .int .i64 a3, .bool a4], .int .i64 tx] w (Qd w0 w (PE PD PM v2) r1 r2 r3 r4 r5) := by
 obtain ⟨A0, c0, e0⟩ := Kd.Xx hE.d; obtain ⟨A1, c1, e1⟩ := Kd.Xx hE.m; obtain ⟨A2, c2, e2⟩ := Kd.Xx hE.l; subst e0 e1 e2; have HE := zz hE; have HB := zz hB; have HZ := zz hB.size; have HZ1 := zz (Nat.le_trans hB.size (Nat.le_succ _)); have hu52 := Try.underlying52
 have nE : ¬ PE PD PM (.slice A2 l2.length c2) w.heap.size := fun h => Nat.lt_irrefl _ (hE.lt _ h)
 have nQ : ¬ PE PD PM (.slice A2 l2.length c2) (w.heap.size + 1) := fun h => by have := hE.lt _ h; omega
 clear hE hB
 unfold Zj.f at h
 replace h := Option.bind_eq_some_iff.mp h; obtain ⟨n0, hn0, h⟩ := h; have A0_ := zz hn0; replace h := Option.bind_eq_some_iff.mp h; obtain ⟨n1, hn1, h⟩ := h; have A1_ := zz hn1; have H := zz h; clear hn0 hn1 h
 go_enter Try.func155, Try.ntmps155
 go_wp2_with fail
 have E0 := zz (HE.out.below (Xd (Xd (Below.refl w.heap.size w) (.cells #[.slice A0 l0.length c0, .slice A1 l1.length c1, .slice A2 l2.length c2, .int .i64 a3, .bool a4] 52)) (.cells #[.slice none 0 0, .slice none 0 0, .slice none 0 0, .int .i64 0, .bool false] 52)))
 have BE0 : Aside0 (Ym ((w.alloc (.cells #[.slice A0 l0.length c0, .slice A1 l1.length c1, .slice A2 l2.length c2, .int .i64 a3, .bool a4] 52)).alloc (.cells #[.slice none 0 0, .slice none 0 0, .slice none 0 0, .int .i64 0, .bool false] 52)) w.heap.size (.slice A0 l0.length c0) (.slice A1 l1.length c1) (.slice A2 l2.length c2) a3 a4) := ⟨XY (Ym.new _ _ _ _ _ _) _⟩
 have BQ0 : Aside0 (Ym ((w.alloc (.cells #[.slice A0 l0.length c0, .slice A1 l1.length c1, .slice A2 l2.length c2, .int .i64 a3, .bool a4] 52)).alloc (.cells #[.slice none 0 0, .slice none 0 0, .slice none 0 0, .int .i64 0, .bool false] 52)) (w.heap.size + 1) (.slice none 0 0) (.slice none 0 0) (.slice none 0 0) 0 false) := ⟨zb37⟩
 have LB0 := zz (Xd (Xd HB.out (.cells #[.slice A0 l0.length c0, .slice A1 l1.length c1, .slice A2 l2.length c2, .int .i64 a3, .bool a4] 52)) (.cells #[.slice none 0 0, .slice none 0 0, .slice none 0 0, .int .i64 0, .bool false] 52)); have LK0 := zz (((Kept.refl w (PE PD PM (.slice A2 l2.length c2))).alloc (.cells #[.slice A0 l0.length c0, .slice A1 l1.length c1, .slice A2 l2.length c2, .int .i64 a3, .bool a4] 52)).alloc (.cells #[.slice none 0 0, .slice none 0 0, .slice none 0 0, .int .i64 0, .bool false] 52)); clear HB; refine (Xu.calls k A2 c2 l2 tx n0 _ (Kd.Xi E0.out.l).2.2 (Kd.Xi E0.out.l).2.1 A0_.out).mono ?_; rintro e w1 ⟨rfl, nd, hw⟩
 have hb : Below ((w.alloc (.cells #[.slice A0 l0.length c0, .slice A1 l1.length c1, .slice A2 l2.length c2, .int .i64 a3, .bool a4] 52)).alloc (.cells #[.slice none 0 0, .slice none 0 0, .slice none 0 0, .int .i64 0, .bool false] 52)).heap.size ((w.alloc (.cells #[.slice A0 l0.length c0, .slice A1 l1.length c1, .slice A2 l2.length c2, .int .i64 a3, .bool a4] 52)).alloc (.cells #[.slice none 0 0, .slice none 0 0, .slice none 0 0, .int .i64 0, .bool false] 52)) w1 := by rw [hw]; exact XF (Below.refl _ _) nd
 clear hw nd; have E1 := zz (E0.out.below hb); have BE1 := zz (BE0.out.below hb); have BQ1 := zz (BQ0.out.below hb); have LB1 := zz (Xe LB0.out hb); have LK1 := zz (LK0.out.below hb); clear hb E0 BE0 BQ0 LB0 LK0; obtain ⟨x0, x1, x2, x3, x4⟩ := BE1.out.cells; obtain ⟨y0, y1, y2, y3, y4⟩ := BQ1.out.cells; obtain ⟨f0, f1, f2, f3, f4⟩ := BQ1.out.XC
 go_wp2_with fail
 clear x0 x1 x2 x3 x4 y0 y1 y2 y3 y4 f0 f1 f2 f3 f4; refine (XU.calls k A2 c2 l2 n0 n1 _ (Kd.Xi E1.out.l).2.2 (Kd.Xi E1.out.l).2.1 A1_.out).mono ?_; rintro e w2 ⟨rfl, hb⟩; have E2 := zz (E1.out.below hb); have BE2 := zz (BE1.out.below hb); have BQ2 := zz (BQ1.out.below hb); have LB2 := zz (Xe LB1.out hb); have LK2 := zz (LK1.out.below hb); clear hb E1 BE1 BQ1 LB1 LK1; have h := H.out; clear H
 by_cases q : n1 = 0
 ·rw [if_pos q] at h
  replace h := Option.bind_eq_some_iff.mp h; obtain ⟨⟨x1, x2, x3, x4, x5, x6⟩, hx, h⟩ := h; simp only [five, Option.some.injEq, Prod.mk.injEq] at h; obtain ⟨rfl, rfl, rfl, rfl, rfl⟩ := h; have H := zz hx; have qb : (n1 == 0) = true := beq_iff_eq.mpr q; clear hx q; obtain ⟨z0, z1, z2, z3, z4⟩ := BE2.out.cells; obtain ⟨y0, y1, y2, y3, y4⟩ := BQ2.out.cells; obtain ⟨f0, f1, f2, f3, f4⟩ := BQ2.out.XC
  go_wp2_with fail
  clear z0 z1 z2 z3 z4 y0 y1 y2 y3 y4 f0 f1 f2 f3 f4; refine (XM.to k PD PM _ _ _ l0 l1 l2 a3 a4 5 tx 0 0 0 0 0 0 x1 x2 x3 x4 x5 x6 w0 _ LB2.out E2.out H.out).mono ?_; rintro e w6 ⟨B0, d0, B1, d1, B2, d2, rfl, PD', PM', hE6, hS6, hb6, hk6⟩; have E6 := zz hE6; have S6 := zz hS6; have LB6 := zz hb6; have BQ6 := zz (BQ2.out.kept hk6 nQ); have LK6 := zz (LK2.out.Dk hk6 (fun j hj => .inl hj)); have hn4 := zz LK2.out.1; have hq4 := zz BQ2.out.lt; clear hE6 hS6 hb6 hk6 E2 BE2 BQ2 LB2 LK2; obtain ⟨y0, y1, y2, y3, y4⟩ := BQ6.out.cells; obtain ⟨f0, f1, f2, f3, f4⟩ := BQ6.out.XC
  have nQ6 : ¬ PE PD' PM' (.slice B2 x3.length d2) (w.heap.size + 1) := fun h_ => by
   rcases S6.out _ h_ with h1 | h1
   ·exact nQ h1
   ·have := hq4.out; omega
  have hq6 : w.heap.size + 1 < w6.heap.size := BQ6.out.lt
  have hq7 : w6.heap.size ≠ w.heap.size + 1 := by omega
  have hq8 : w.heap.size + 1 ≠ w6.heap.size := by omega
  go_wp2
  refine bodyPost_ret (v := .agg #[.slice B0 x1.length d0, .slice B1 x2.length d1, .slice B2 x3.length d2, .int .i64 x4, .bool x5]) zb128 rfl ⟨B0, d0, B1, d1, B2, d2, rfl, PD', PM', (E6.out.Jj nQ6).below (Xd (Below.refl _ _) _), fun j hj => (S6.out j hj).imp id (fun h_ => Nat.le_trans hn4.out h_), ?_, ?_⟩
  ·exact Xd (Xc (Xc (Xc (Xc (Xc LB6.out HZ1.out) HZ1.out) HZ1.out) HZ1.out) HZ1.out) _
  ·exact (((((LK6.out.setCell (p := ⟨w.heap.size + 1, 0, none⟩) (.inr (Nat.le_succ _)) _).setCell (p := ⟨w.heap.size + 1, 1, none⟩) (.inr (Nat.le_succ _)) _).setCell (p := ⟨w.heap.size + 1, 2, none⟩) (.inr (Nat.le_succ _)) _).setCell (p := ⟨w.heap.size + 1, 3, none⟩) (.inr (Nat.le_succ _)) _).setCell (p := ⟨w.heap.size + 1, 4, none⟩) (.inr (Nat.le_succ _)) _).alloc _
 ·rw [if_neg q] at h
  have qb : (n1 == 0) = false := beq_eq_false_iff_ne.mpr q; clear q
  by_cases q0 : 0 ≤ wrap64 (n1 - 1)
  rotate_left
  ·rw [if_neg q0] at h
   exact absurd h (by simp)
  rw [if_pos q0] at h
  by_cases q1 : wrap64 (n1 - 1) < (l2.length : Int)
  rotate_left
  ·rw [if_neg q1] at h
   exact absurd h (by simp)
  rw [if_pos q1] at h; replace h := Option.bind_eq_some_iff.mp h; obtain ⟨⟨x1, x2, x3, x4, x5, x6⟩, hx, h⟩ := h; simp only [five, Option.some.injEq, Prod.mk.injEq] at h; obtain ⟨rfl, rfl, rfl, rfl, rfl⟩ := h; have H := zz hx; clear hx
  obtain ⟨ji, hji⟩ : ∃ j_ : Int, wrap64 (n1 - 1) = j_ := ⟨_, rfl⟩
  rw [hji] at q0 q1; have hjw : IntKind.i64.wrap (n1 - 1) = ji := (XG _).trans hji; have H2 := zz (hji ▸ H.out); have p0 := eq_true q0; have p1 := eq_true q1; have Q0 := zz q0; have Q1 := zz q1; clear q0 q1 H; obtain ⟨z0, z1, z2, z3, z4⟩ := BE2.out.cells; obtain ⟨y0, y1, y2, y3, y4⟩ := BQ2.out.cells; obtain ⟨f0, f1, f2, f3, f4⟩ := BQ2.out.XC
  go_wp2_with fail
  clear z0 z1 z2 z3 z4 y0 y1 y2 y3 y4 f0 f1 f2 f3 f4; have E3 := zz (E2.out.below (XX (Below.refl _ _)))
  have BE3 : Aside0 (Ym w2.drew w.heap.size _ _ _ _ _) := ⟨Yd BE2.out⟩
  have BQ3 : Aside0 (Ym w2.drew (w.heap.size + 1) _ _ _ _ _) := ⟨Yd BQ2.out⟩
  have LB3 := zz (Yt LB2.out); have LK3 := zz (Kept.drew LK2.out); obtain ⟨A9, e9, u0, u1, u2, u3, u4, u5, u6, u7⟩ := YN (Kd.Xi E3.out.l).2.2 ji Q0.out Q1.out; subst e9; clear E2 BE2 BQ2 LB2 LK2; clear u0 u1 u2 u3 u4 u5 u6 u7; have hu41 := Try.underlying41; refine ZR (n := 16) (S := fun w' => w'.cell? ⟨w.heap.size, 0, none⟩ = some (.slice A0 l0.length c0) ∧ w'.cell? ⟨w.heap.size, 1, none⟩ = some (.slice A1 l1.length c1) ∧ w'.cell? ⟨w.heap.size, 2, none⟩ = some (.slice (some A9) l2.length c2) ∧ w'.cell? ⟨w.heap.size, 3, none⟩ = some (.int .i64 a3) ∧ w'.cell? ⟨w.heap.size, 4, none⟩ = some (.bool a4)) (ds := [14]) Xpc zb13 rfl rfl ⟨BE3.out.cells.1, BE3.out.cells.2.1, BE3.out.cells.2.2.1, BE3.out.cells.2.2.2.1, BE3.out.cells.2.2.2.2⟩ (fun hHeld => ?_); refine ZV Zj.XgP Zj.Xay (fun HT_ HW_ => ?_); generalize w2.drew = w3 at E3 BE3 BQ3 LB3 LK3 hHeld ⊢; refine pu 1 31 Xpd HT_ ?_; refine pu 3 33 Xpe HT_ ?_; refine pu 4 34 Xpf HT_ ?_; refine pu 7 37 Xpg HT_ ?_; refine tk 0 30 Xph HT_ HW_ hHeld ?_; refine tk 2 32 Xpi HT_ HW_ hHeld ?_; refine pu 5 35 Xpj HT_ ?_; refine Xbx (i := 6) (j := 13) (Ni := some 36) (Nj := some 9) Xpl Xpk rfl rfl rfl rfl (P7 HT_.out zb13) (by decide) (by decide) (fun K hK => ?_) (fun K hK => ?_)
  ·skip
   obtain ⟨A9', e9, u0, u1, u2, u3, u4, u5, u6, u7⟩ := YN (Kd.Xi E3.out.l).2.2 ji Q0.out Q1.out; obtain rfl := Option.some.inj e9; refine GQ (w1 := ?_) (v := ?_) (by rfl) rfl ?_ ?_; rotate_left 2
   ·go_simp
    constructor
    ·rfl
    ·rfl
   clear u0 u1 u2 u3 u4 u5 u6 u7 e9; refine hK.out _ _ ⟨BE3.out.cells.1, BE3.out.cells.2.1, BE3.out.cells.2.2.1, BE3.out.cells.2.2.2.1, BE3.out.cells.2.2.2.2⟩ (fun hHeld => ?_); clear hK K; refine YP (a' := ?_) ?_ ?_; rotate_left
   ·show Act.put _ (some 36) _ = _
    simp only [Act.put, List.setIfInBounds_toArray, List.set_cons_zero, List.set_cons_succ, XG, XW]
    rfl
   refine Xbx (i := 8) (j := 13) (Ni := some 38) (Nj := some 9) Xkv Xdk rfl rfl rfl rfl (P7 HT_.out zb13) (by decide) (by decide) (fun K hK => ?_) (fun K hK => ?_)
   ·skip
    refine Ji Try.func89 zb13 rfl #[.agg #[.int .i64 (Xa l2 ji).f0, .int .i64 (Xa l2 ji).f1, .int .i64 (Xa l2 ji).f2, .int .i64 (Xa l2 ji).f3, .int .i64 (Xa l2 ji).f4, .int .i64 (Xa l2 ji).f5, .int .i64 (Xa l2 ji).f6, .int .i64 (Xa l2 ji).f7], .int .i64 n0] (by rfl) rfl rfl zb0 ?_
    with_reducible refine (U2.calls (Xa l2 ji).f0 (Xa l2 ji).f1 (Xa l2 ji).f2 (Xa l2 ji).f3 (Xa l2 ji).f4 (Xa l2 ji).f5 (Xa l2 ji).f6 (Xa l2 ji).f7 n0 6 (Xa l2 ji).f1 (Xa l2 ji).f2 (Xa l2 ji).f3 0 (Xa l2 ji).f4 n0 (Xa l2 ji).f6 w3 rfl).mono ?_
    rintro e w4 ⟨rfl, hb⟩; refine ⟨_, rfl, ?_⟩; have E4 := zz (E3.out.below hb); have BE4 := zz (BE3.out.below hb); have BQ4 := zz (BQ3.out.below hb); have LB4 := zz (Xe LB3.out hb); have LK4 := zz (LK3.out.below hb); clear hb E3 BE3 BQ3 LB3 LK3; refine hK.out _ _ ⟨BE4.out.cells.1, BE4.out.cells.2.1, BE4.out.cells.2.2.1, BE4.out.cells.2.2.2.1, BE4.out.cells.2.2.2.2⟩ (fun hHeld => ?_); clear hK K; refine YP (a' := ?_) ?_ ?_; rotate_left
    ·show Act.put _ (some 38) _ = _
     simp only [Act.put, List.setIfInBounds_toArray, List.set_cons_zero, List.set_cons_succ, XG, XW]
     rfl
    refine Xbx (i := 9) (j := 13) (Ni := some 39) (Nj := some 9) Xkw Qm rfl rfl rfl rfl (P7 HT_.out zb13) (by decide) (by decide) (fun K hK => ?_) (fun K hK => ?_)
    ·skip
     refine Ji Try.func153 zb13 rfl #[.agg #[.slice A0 l0.length c0, .slice A1 l1.length c1, .slice (some A9) l2.length c2, .int .i64 a3, .bool a4], .agg #[.int .i64 6, .int .i64 (Xa l2 ji).f1, .int .i64 (Xa l2 ji).f2, .int .i64 (Xa l2 ji).f3, .int .i64 0, .int .i64 (Xa l2 ji).f4, .int .i64 n0, .int .i64 (Xa l2 ji).f6]] (by rfl) rfl rfl zb0 ?_
     with_reducible refine (XM.to k PD PM _ _ _ l0 l1 l2 a3 a4 6 (Xa l2 ji).f1 (Xa l2 ji).f2 (Xa l2 ji).f3 0 (Xa l2 ji).f4 n0 (Xa l2 ji).f6 x1 x2 x3 x4 x5 x6 w0 _ LB4.out E4.out H2.out).mono ?_
     rintro e w6 ⟨B0, d0, B1, d1, B2, d2, rfl, PD', PM', hE6, hS6, hb6, hk6⟩; refine ⟨_, rfl, ?_⟩; have BE6 := zz (BE4.out.kept hk6 nE); have E6 := zz hE6; have S6 := zz hS6; have LB6 := zz hb6; have BQ6 := zz (BQ4.out.kept hk6 nQ); have LK6 := zz (LK4.out.Dk hk6 (fun j hj => .inl hj)); have hn4 := zz LK4.out.1; have hq4 := zz BQ4.out.lt; clear hE6 hS6 hb6 hk6 E4 BE4 BQ4 LB4 LK4 hHeld; refine hK.out _ _ ⟨BE6.out.cells.1, BE6.out.cells.2.1, BE6.out.cells.2.2.1, BE6.out.cells.2.2.2.1, BE6.out.cells.2.2.2.2⟩ (fun hHeld => ?_); clear hK K; refine YP (a' := ?_) ?_ ?_; rotate_left
     ·show Act.put _ (some 39) _ = _
      simp only [Act.put, List.setIfInBounds_toArray, List.set_cons_zero, List.set_cons_succ, XG, XW]
      rfl
     refine pu 10 29 Xkx HT_ ?_; refine pu 11 40 Xky HT_ ?_; refine pu 12 41 Xkz HT_ ?_; refine Vr (i := 13) (N := some 9) RX rfl rfl (Zf HT_.out zb13) (by decide) (fun K hK => ?_); refine GQ (w1 := ?_) (v := ?_) (by rfl) rfl ?_ ?_; rotate_left 2
     ·go_simp
      constructor
      ·rfl
      ·rfl
     have nX6 : ¬ PE PD' PM' (.slice B2 x3.length d2) w6.heap.size := fun h_ => Nat.lt_irrefl _ (E6.out.lt _ h_)
     have hx1 : w.heap.size + 1 < w6.heap.size := BQ6.out.lt; have HZX := zz LB6.out.size
     have BX7 : Aside0 (Ym (w6.alloc (.cells #[.slice none 0 0, .slice none 0 0, .slice none 0 0, .int .i64 0, .bool false] 52)) w6.heap.size (.slice none 0 0) (.slice none 0 0) (.slice none 0 0) 0 false) := ⟨Ym.new _ _ _ _ _ _⟩
     have hb : Below w6.heap.size w6 (w6.alloc (.cells #[.slice none 0 0, .slice none 0 0, .slice none 0 0, .int .i64 0, .bool false] 52)) := Xd (Below.refl _ _) _; have E7 := zz (E6.out.below hb); have BE7 := zz (BE6.out.below hb); have BQ7 := zz (BQ6.out.below hb); have LB7 := zz (Xe LB6.out hb); have LK7 := zz (LK6.out.below hb); clear hb E6 BE6 BQ6 LB6 LK6
     obtain ⟨bx, hbx⟩ : ∃ b_, w6.heap.size = b_ := ⟨_, rfl⟩
     generalize w6.alloc (.cells #[.slice none 0 0, .slice none 0 0, .slice none 0 0, .int .i64 0, .bool false] 52) = w7 at *; rw [hbx] at nX6 hx1 HZX BX7; rw [hbx]; refine hK.out _ _ ⟨BE7.out.cells.1, BE7.out.cells.2.1, BE7.out.cells.2.2.1, BE7.out.cells.2.2.2.1, BE7.out.cells.2.2.2.2⟩ (fun hHeld => ?_); clear hK K; refine YP (a' := ?_) ?_ ?_; rotate_left
     ·show Act.put _ (some 9) _ = _
      simp only [Act.put, List.setIfInBounds_toArray, List.set_cons_zero, List.set_cons_succ, XG, XW]
      rfl
     obtain ⟨g0, g1, g2, g3, g4⟩ := BX7.out.cells; obtain ⟨k0, k1, k2, k3, k4⟩ := BX7.out.XC; obtain ⟨y0, y1, y2, y3, y4⟩ := BQ7.out.cells; obtain ⟨f0, f1, f2, f3, f4⟩ := BQ7.out.XC
     have hq7 : bx ≠ w.heap.size + 1 := by omega
     have hq8 : w.heap.size + 1 ≠ bx := by omega
     have nQ6 : ¬ PE PD' PM' (.slice B2 x3.length d2) (w.heap.size + 1) := fun h_ => by
      rcases S6.out _ h_ with h1 | h1
      ·exact nQ h1
      ·have := hq4.out; omega
     have HX := zz (show w.heap.size ≤ bx by omega); refine Uz (i := 14) (N := none) RY rfl rfl (Zf HT_.out zb13) (by decide) (fun K hK => ?_); refine M9 (w1 := ?_) (by rfl) rfl ?_ ?_; rotate_left
     ·go_simp
      rfl
     refine hK.out _ _ ?_; clear hK K; refine pu 15 10 RZ HT_ ?_; refine J4 (J9 HT_.out zb13) ?_
     go_wp2
     refine bodyPost_ret (v := .agg #[.slice B0 x1.length d0, .slice B1 x2.length d1, .slice B2 x3.length d2, .int .i64 x4, .bool x5]) zb128 rfl ⟨B0, d0, B1, d1, B2, d2, rfl, PD', PM', (E7.out.Jj nX6).Jj nQ6, fun j hj => (S6.out j hj).imp id (fun h_ => Nat.le_trans hn4.out h_), ?_, ?_⟩
     ·exact (Xc (Xc (Xc (Xc (Xc (Xc (Xc (Xc (Xc (Xc LB7.out HZX.out) HZX.out) HZX.out) HZX.out) HZX.out) HZ1.out) HZ1.out) HZ1.out) HZ1.out) HZ1.out)
     ·exact ((((((((((LK7.out.setCell (p := ⟨bx, 0, none⟩) (.inr HX.out) _).setCell (p := ⟨bx, 1, none⟩) (.inr HX.out) _).setCell (p := ⟨bx, 2, none⟩) (.inr HX.out) _).setCell (p := ⟨bx, 3, none⟩) (.inr HX.out) _).setCell (p := ⟨bx, 4, none⟩) (.inr HX.out) _).setCell (p := ⟨w.heap.size + 1, 0, none⟩) (.inr (Nat.le_succ _)) _).setCell (p := ⟨w.heap.size + 1, 1, none⟩) (.inr (Nat.le_succ _)) _).setCell (p := ⟨w.heap.size + 1, 2, none⟩) (.inr (Nat.le_succ _)) _).setCell (p := ⟨w.heap.size + 1, 3, none⟩) (.inr (Nat.le_succ _)) _).setCell (p := ⟨w.heap.size + 1, 4, none⟩) (.inr (Nat.le_succ _)) _)
    ·skip
     refine GQ (w1 := ?_) (v := ?_) (by rfl) rfl ?_ ?_; rotate_left 2
     ·go_simp
      constructor
      ·rfl
      ·rfl
     have nX : ¬ PE PD PM (.slice (some A9) l2.length c2) w4.heap.size := fun h_ => Nat.lt_irrefl _ (E4.out.lt _ h_)
     have hx1 : w.heap.size + 1 < w4.heap.size := BQ4.out.lt; have HZX := zz LB4.out.size
     have BX5 : Aside0 (Ym (w4.alloc (.cells #[.slice none 0 0, .slice none 0 0, .slice none 0 0, .int .i64 0, .bool false] 52)) w4.heap.size (.slice none 0 0) (.slice none 0 0) (.slice none 0 0) 0 false) := ⟨Ym.new _ _ _ _ _ _⟩
     have hb : Below w4.heap.size w4 (w4.alloc (.cells #[.slice none 0 0, .slice none 0 0, .slice none 0 0, .int .i64 0, .bool false] 52)) := Xd (Below.refl _ _) _; have E5 := zz (E4.out.below hb); have BE5 := zz (BE4.out.below hb); have BQ5 := zz (BQ4.out.below hb); have LB5 := zz (Xe LB4.out hb); have LK5 := zz (LK4.out.below hb); clear hb E4 BE4 BQ4 LB4 LK4
     obtain ⟨bx, hbx⟩ : ∃ b_, w4.heap.size = b_ := ⟨_, rfl⟩
     generalize w4.alloc (.cells #[.slice none 0 0, .slice none 0 0, .slice none 0 0, .int .i64 0, .bool false] 52) = w5 at *; rw [hbx] at nX hx1 HZX BX5; rw [hbx]; refine hK.out _ _ ⟨BE5.out.cells.1, BE5.out.cells.2.1, BE5.out.cells.2.2.1, BE5.out.cells.2.2.2.1, BE5.out.cells.2.2.2.2⟩ (fun hHeld => ?_); clear hK K; refine YP (a' := ?_) ?_ ?_; rotate_left
     ·show Act.put _ (some 9) _ = _
      simp only [Act.put, List.setIfInBounds_toArray, List.set_cons_zero, List.set_cons_succ, XG, XW]
      rfl
     refine Vr (i := 9) (N := some 39) Qn rfl rfl (Zf HT_.out zb13) (by decide) (fun K hK => ?_); refine Ji Try.func153 zb13 rfl #[.agg #[.slice A0 l0.length c0, .slice A1 l1.length c1, .slice (some A9) l2.length c2, .int .i64 a3, .bool a4], .agg #[.int .i64 6, .int .i64 (Xa l2 ji).f1, .int .i64 (Xa l2 ji).f2, .int .i64 (Xa l2 ji).f3, .int .i64 0, .int .i64 (Xa l2 ji).f4, .int .i64 n0, .int .i64 (Xa l2 ji).f6]] (by rfl) rfl rfl zb0 ?_
     with_reducible refine (XM.to k PD PM _ _ _ l0 l1 l2 a3 a4 6 (Xa l2 ji).f1 (Xa l2 ji).f2 (Xa l2 ji).f3 0 (Xa l2 ji).f4 n0 (Xa l2 ji).f6 x1 x2 x3 x4 x5 x6 w0 _ LB5.out E5.out H2.out).mono ?_
     rintro e w6 ⟨B0, d0, B1, d1, B2, d2, rfl, PD', PM', hE6, hS6, hb6, hk6⟩; refine ⟨_, rfl, ?_⟩; have BE6 := zz (BE5.out.kept hk6 nE); have BX6 := zz (BX5.out.kept hk6 nX); have hxl := zz BX5.out.lt; have E6 := zz hE6; have S6 := zz hS6; have LB6 := zz hb6; have BQ6 := zz (BQ5.out.kept hk6 nQ); have LK6 := zz (LK5.out.Dk hk6 (fun j hj => .inl hj)); have hn4 := zz LK5.out.1; have hq4 := zz BQ5.out.lt; clear hE6 hS6 hb6 hk6 E5 BE5 BQ5 LB5 LK5 hHeld
     have nX6 : ¬ PE PD' PM' (.slice B2 x3.length d2) bx := fun h_ => by
      rcases S6.out _ h_ with h1 | h1
      ·exact nX h1
      ·have := hxl.out; omega
     refine hK.out _ _ ⟨BE6.out.cells.1, BE6.out.cells.2.1, BE6.out.cells.2.2.1, BE6.out.cells.2.2.2.1, BE6.out.cells.2.2.2.2⟩ (fun hHeld => ?_); clear hK K; refine YP (a' := ?_) ?_ ?_; rotate_left
     ·show Act.put _ (some 39) _ = _
      simp only [Act.put, List.setIfInBounds_toArray, List.set_cons_zero, List.set_cons_succ, XG, XW]
      rfl
     refine pu 10 29 Qo HT_ ?_; refine pu 11 40 Qp HT_ ?_; refine pu 12 41 RX HT_ ?_; obtain ⟨g0, g1, g2, g3, g4⟩ := BX6.out.cells; obtain ⟨k0, k1, k2, k3, k4⟩ := BX6.out.XC; obtain ⟨y0, y1, y2, y3, y4⟩ := BQ6.out.cells; obtain ⟨f0, f1, f2, f3, f4⟩ := BQ6.out.XC
     have hq7 : bx ≠ w.heap.size + 1 := by omega
     have hq8 : w.heap.size + 1 ≠ bx := by omega
     have nQ6 : ¬ PE PD' PM' (.slice B2 x3.length d2) (w.heap.size + 1) := fun h_ => by
      rcases S6.out _ h_ with h1 | h1
      ·exact nQ h1
      ·have := hq4.out; omega
     have HX := zz (show w.heap.size ≤ bx by omega); refine Uz (i := 14) (N := none) RY rfl rfl (Zf HT_.out zb13) (by decide) (fun K hK => ?_); refine M9 (w1 := ?_) (by rfl) rfl ?_ ?_; rotate_left
     ·go_simp
      rfl
     refine hK.out _ _ ?_; clear hK K; refine pu 15 10 RZ HT_ ?_; refine J4 (J9 HT_.out zb13) ?_
     go_wp2
     refine bodyPost_ret (v := .agg #[.slice B0 x1.length d0, .slice B1 x2.length d1, .slice B2 x3.length d2, .int .i64 x4, .bool x5]) zb128 rfl ⟨B0, d0, B1, d1, B2, d2, rfl, PD', PM', (E6.out.Jj nX6).Jj nQ6, fun j hj => (S6.out j hj).imp id (fun h_ => Nat.le_trans hn4.out h_), ?_, ?_⟩
     ·exact (Xc (Xc (Xc (Xc (Xc (Xc (Xc (Xc (Xc (Xc LB6.out HZX.out) HZX.out) HZX.out) HZX.out) HZX.out) HZ1.out) HZ1.out) HZ1.out) HZ1.out) HZ1.out)
     ·exact ((((((((((LK6.out.setCell (p := ⟨bx, 0, none⟩) (.inr HX.out) _).setCell (p := ⟨bx, 1, none⟩) (.inr HX.out) _).setCell (p := ⟨bx, 2, none⟩) (.inr HX.out) _).setCell (p := ⟨bx, 3, none⟩) (.inr HX.out) _).setCell (p := ⟨bx, 4, none⟩) (.inr HX.out) _).setCell (p := ⟨w.heap.size + 1, 0, none⟩) (.inr (Nat.le_succ _)) _).setCell (p := ⟨w.heap.size + 1, 1, none⟩) (.inr (Nat.le_succ _)) _).setCell (p := ⟨w.heap.size + 1, 2, none⟩) (.inr (Nat.le_succ _)) _).setCell (p := ⟨w.heap.size + 1, 3, none⟩) (.inr (Nat.le_succ _)) _).setCell (p := ⟨w.heap.size + 1, 4, none⟩) (.inr (Nat.le_succ _)) _)
   ·skip
    refine GQ (w1 := ?_) (v := ?_) (by rfl) rfl ?_ ?_; rotate_left 2
    ·go_simp
     constructor
     ·rfl
     ·rfl
    have nX : ¬ PE PD PM (.slice (some A9) l2.length c2) w3.heap.size := fun h_ => Nat.lt_irrefl _ (E3.out.lt _ h_)
    have hx1 : w.heap.size + 1 < w3.heap.size := BQ3.out.lt; have HZX := zz LB3.out.size
    have BX4 : Aside0 (Ym (w3.alloc (.cells #[.slice none 0 0, .slice none 0 0, .slice none 0 0, .int .i64 0, .bool false] 52)) w3.heap.size (.slice none 0 0) (.slice none 0 0) (.slice none 0 0) 0 false) := ⟨Ym.new _ _ _ _ _ _⟩
    have hb : Below w3.heap.size w3 (w3.alloc (.cells #[.slice none 0 0, .slice none 0 0, .slice none 0 0, .int .i64 0, .bool false] 52)) := Xd (Below.refl _ _) _; have E4 := zz (E3.out.below hb); have BE4 := zz (BE3.out.below hb); have BQ4 := zz (BQ3.out.below hb); have LB4 := zz (Xe LB3.out hb); have LK4 := zz (LK3.out.below hb); clear hb E3 BE3 BQ3 LB3 LK3
    obtain ⟨bx, hbx⟩ : ∃ b_, w3.heap.size = b_ := ⟨_, rfl⟩
    generalize w3.alloc (.cells #[.slice none 0 0, .slice none 0 0, .slice none 0 0, .int .i64 0, .bool false] 52) = w4 at *; rw [hbx] at nX hx1 HZX BX4; rw [hbx]; refine hK.out _ _ ⟨BE4.out.cells.1, BE4.out.cells.2.1, BE4.out.cells.2.2.1, BE4.out.cells.2.2.2.1, BE4.out.cells.2.2.2.2⟩ (fun hHeld => ?_); clear hK K; refine YP (a' := ?_) ?_ ?_; rotate_left
    ·show Act.put _ (some 9) _ = _
     simp only [Act.put, List.setIfInBounds_toArray, List.set_cons_zero, List.set_cons_succ, XG, XW]
     rfl
    refine Vr (i := 8) (N := some 38) Qm rfl rfl (Zf HT_.out zb13) (by decide) (fun K hK => ?_); refine Ji Try.func89 zb13 rfl #[.agg #[.int .i64 (Xa l2 ji).f0, .int .i64 (Xa l2 ji).f1, .int .i64 (Xa l2 ji).f2, .int .i64 (Xa l2 ji).f3, .int .i64 (Xa l2 ji).f4, .int .i64 (Xa l2 ji).f5, .int .i64 (Xa l2 ji).f6, .int .i64 (Xa l2 ji).f7], .int .i64 n0] (by rfl) rfl rfl zb0 ?_
    with_reducible refine (U2.calls (Xa l2 ji).f0 (Xa l2 ji).f1 (Xa l2 ji).f2 (Xa l2 ji).f3 (Xa l2 ji).f4 (Xa l2 ji).f5 (Xa l2 ji).f6 (Xa l2 ji).f7 n0 6 (Xa l2 ji).f1 (Xa l2 ji).f2 (Xa l2 ji).f3 0 (Xa l2 ji).f4 n0 (Xa l2 ji).f6 w4 rfl).mono ?_
    rintro e w5 ⟨rfl, hb⟩; refine ⟨_, rfl, ?_⟩; have E5 := zz (E4.out.below hb); have BE5 := zz (BE4.out.below hb); have BQ5 := zz (BQ4.out.below hb); have LB5 := zz (Xe LB4.out hb); have LK5 := zz (LK4.out.below hb); have BX5 := zz (BX4.out.below hb); clear hb BX4 E4 BE4 BQ4 LB4 LK4; refine hK.out _ _ ⟨BE5.out.cells.1, BE5.out.cells.2.1, BE5.out.cells.2.2.1, BE5.out.cells.2.2.2.1, BE5.out.cells.2.2.2.2⟩ (fun hHeld => ?_); clear hK K; refine YP (a' := ?_) ?_ ?_; rotate_left
    ·show Act.put _ (some 38) _ = _
     simp only [Act.put, List.setIfInBounds_toArray, List.set_cons_zero, List.set_cons_succ, XG, XW]
     rfl
    refine Vr (i := 9) (N := some 39) Qn rfl rfl (Zf HT_.out zb13) (by decide) (fun K hK => ?_); refine Ji Try.func153 zb13 rfl #[.agg #[.slice A0 l0.length c0, .slice A1 l1.length c1, .slice (some A9) l2.length c2, .int .i64 a3, .bool a4], .agg #[.int .i64 6, .int .i64 (Xa l2 ji).f1, .int .i64 (Xa l2 ji).f2, .int .i64 (Xa l2 ji).f3, .int .i64 0, .int .i64 (Xa l2 ji).f4, .int .i64 n0, .int .i64 (Xa l2 ji).f6]] (by rfl) rfl rfl zb0 ?_
    with_reducible refine (XM.to k PD PM _ _ _ l0 l1 l2 a3 a4 6 (Xa l2 ji).f1 (Xa l2 ji).f2 (Xa l2 ji).f3 0 (Xa l2 ji).f4 n0 (Xa l2 ji).f6 x1 x2 x3 x4 x5 x6 w0 _ LB5.out E5.out H2.out).mono ?_
    rintro e w6 ⟨B0, d0, B1, d1, B2, d2, rfl, PD', PM', hE6, hS6, hb6, hk6⟩; refine ⟨_, rfl, ?_⟩; have BE6 := zz (BE5.out.kept hk6 nE); have BX6 := zz (BX5.out.kept hk6 nX); have hxl := zz BX5.out.lt; have E6 := zz hE6; have S6 := zz hS6; have LB6 := zz hb6; have BQ6 := zz (BQ5.out.kept hk6 nQ); have LK6 := zz (LK5.out.Dk hk6 (fun j hj => .inl hj)); have hn4 := zz LK5.out.1; have hq4 := zz BQ5.out.lt; clear hE6 hS6 hb6 hk6 E5 BE5 BQ5 LB5 LK5 hHeld
    have nX6 : ¬ PE PD' PM' (.slice B2 x3.length d2) bx := fun h_ => by
     rcases S6.out _ h_ with h1 | h1
     ·exact nX h1
     ·have := hxl.out; omega
    refine hK.out _ _ ⟨BE6.out.cells.1, BE6.out.cells.2.1, BE6.out.cells.2.2.1, BE6.out.cells.2.2.2.1, BE6.out.cells.2.2.2.2⟩ (fun hHeld => ?_); clear hK K; refine YP (a' := ?_) ?_ ?_; rotate_left
    ·show Act.put _ (some 39) _ = _
     simp only [Act.put, List.setIfInBounds_toArray, List.set_cons_zero, List.set_cons_succ, XG, XW]
     rfl
    refine pu 10 29 Qo HT_ ?_; refine pu 11 40 Qp HT_ ?_; refine pu 12 41 RX HT_ ?_; obtain ⟨g0, g1, g2, g3, g4⟩ := BX6.out.cells; obtain ⟨k0, k1, k2, k3, k4⟩ := BX6.out.XC; obtain ⟨y0, y1, y2, y3, y4⟩ := BQ6.out.cells; obtain ⟨f0, f1, f2, f3, f4⟩ := BQ6.out.XC
    have hq7 : bx ≠ w.heap.size + 1 := by omega
    have hq8 : w.heap.size + 1 ≠ bx := by omega
    have nQ6 : ¬ PE PD' PM' (.slice B2 x3.length d2) (w.heap.size + 1) := fun h_ => by
     rcases S6.out _ h_ with h1 | h1
     ·exact nQ h1
     ·have := hq4.out; omega
    have HX := zz (show w.heap.size ≤ bx by omega); refine Uz (i := 14) (N := none) RY rfl rfl (Zf HT_.out zb13) (by decide) (fun K hK => ?_); refine M9 (w1 := ?_) (by rfl) rfl ?_ ?_; rotate_left
    ·go_simp
     rfl
    refine hK.out _ _ ?_; clear hK K; refine pu 15 10 RZ HT_ ?_; refine J4 (J9 HT_.out zb13) ?_
    go_wp2
    refine bodyPost_ret (v := .agg #[.slice B0 x1.length d0, .slice B1 x2.length d1, .slice B2 x3.length d2, .int .i64 x4, .bool x5]) zb128 rfl ⟨B0, d0, B1, d1, B2, d2, rfl, PD', PM', (E6.out.Jj nX6).Jj nQ6, fun j hj => (S6.out j hj).imp id (fun h_ => Nat.le_trans hn4.out h_), ?_, ?_⟩
    ·exact (Xc (Xc (Xc (Xc (Xc (Xc (Xc (Xc (Xc (Xc LB6.out HZX.out) HZX.out) HZX.out) HZX.out) HZX.out) HZ1.out) HZ1.out) HZ1.out) HZ1.out) HZ1.out)
    ·exact ((((((((((LK6.out.setCell (p := ⟨bx, 0, none⟩) (.inr HX.out) _).setCell (p := ⟨bx, 1, none⟩) (.inr HX.out) _).setCell (p := ⟨bx, 2, none⟩) (.inr HX.out) _).setCell (p := ⟨bx, 3, none⟩) (.inr HX.out) _).setCell (p := ⟨bx, 4, none⟩) (.inr HX.out) _).setCell (p := ⟨w.heap.size + 1, 0, none⟩) (.inr (Nat.le_succ _)) _).setCell (p := ⟨w.heap.size + 1, 1, none⟩) (.inr (Nat.le_succ _)) _).setCell (p := ⟨w.heap.size + 1, 2, none⟩) (.inr (Nat.le_succ _)) _).setCell (p := ⟨w.heap.size + 1, 3, none⟩) (.inr (Nat.le_succ _)) _).setCell (p := ⟨w.heap.size + 1, 4, none⟩) (.inr (Nat.le_succ _)) _)
  ·skip
   refine GQ (w1 := ?_) (v := ?_) (by rfl) rfl ?_ ?_; rotate_left 2
   ·go_simp
    constructor
    ·rfl
    ·rfl
   have nX : ¬ PE PD PM (.slice (some A9) l2.length c2) w3.heap.size := fun h_ => Nat.lt_irrefl _ (E3.out.lt _ h_)
   have hx1 : w.heap.size + 1 < w3.heap.size := BQ3.out.lt; have HZX := zz LB3.out.size
   have BX4 : Aside0 (Ym (w3.alloc (.cells #[.slice none 0 0, .slice none 0 0, .slice none 0 0, .int .i64 0, .bool false] 52)) w3.heap.size (.slice none 0 0) (.slice none 0 0) (.slice none 0 0) 0 false) := ⟨Ym.new _ _ _ _ _ _⟩
   have hb : Below w3.heap.size w3 (w3.alloc (.cells #[.slice none 0 0, .slice none 0 0, .slice none 0 0, .int .i64 0, .bool false] 52)) := Xd (Below.refl _ _) _; have E4 := zz (E3.out.below hb); have BE4 := zz (BE3.out.below hb); have BQ4 := zz (BQ3.out.below hb); have LB4 := zz (Xe LB3.out hb); have LK4 := zz (LK3.out.below hb); clear hb E3 BE3 BQ3 LB3 LK3
   obtain ⟨bx, hbx⟩ : ∃ b_, w3.heap.size = b_ := ⟨_, rfl⟩
   generalize w3.alloc (.cells #[.slice none 0 0, .slice none 0 0, .slice none 0 0, .int .i64 0, .bool false] 52) = w4 at *; rw [hbx] at nX hx1 HZX BX4; rw [hbx]; refine hK.out _ _ ⟨BE4.out.cells.1, BE4.out.cells.2.1, BE4.out.cells.2.2.1, BE4.out.cells.2.2.2.1, BE4.out.cells.2.2.2.2⟩ (fun hHeld => ?_); clear hK K; refine YP (a' := ?_) ?_ ?_; rotate_left
   ·show Act.put _ (some 9) _ = _
    simp only [Act.put, List.setIfInBounds_toArray, List.set_cons_zero, List.set_cons_succ, XG, XW]
    rfl
   refine Vr (i := 6) (N := some 36) Xdk rfl rfl (Zf HT_.out zb13) (by decide) (fun K hK => ?_); obtain ⟨A9', e9, u0, u1, u2, u3, u4, u5, u6, u7⟩ := YN (Kd.Xi E4.out.l).2.2 ji Q0.out Q1.out; obtain rfl := Option.some.inj e9; refine GQ (w1 := ?_) (v := ?_) (by rfl) rfl ?_ ?_; rotate_left 2
   ·go_simp
    constructor
    ·rfl
    ·rfl
   clear u0 u1 u2 u3 u4 u5 u6 u7 e9; refine hK.out _ _ ⟨BE4.out.cells.1, BE4.out.cells.2.1, BE4.out.cells.2.2.1, BE4.out.cells.2.2.2.1, BE4.out.cells.2.2.2.2⟩ (fun hHeld => ?_); clear hK K; refine YP (a' := ?_) ?_ ?_; rotate_left
   ·show Act.put _ (some 36) _ = _
    simp only [Act.put, List.setIfInBounds_toArray, List.set_cons_zero, List.set_cons_succ, XG, XW]
    rfl
   refine Vr (i := 8) (N := some 38) Qm rfl rfl (Zf HT_.out zb13) (by decide) (fun K hK => ?_); refine Ji Try.func89 zb13 rfl #[.agg #[.int .i64 (Xa l2 ji).f0, .int .i64 (Xa l2 ji).f1, .int .i64 (Xa l2 ji).f2, .int .i64 (Xa l2 ji).f3, .int .i64 (Xa l2 ji).f4, .int .i64 (Xa l2 ji).f5, .int .i64 (Xa l2 ji).f6, .int .i64 (Xa l2 ji).f7], .int .i64 n0] (by rfl) rfl rfl zb0 ?_
   with_reducible refine (U2.calls (Xa l2 ji).f0 (Xa l2 ji).f1 (Xa l2 ji).f2 (Xa l2 ji).f3 (Xa l2 ji).f4 (Xa l2 ji).f5 (Xa l2 ji).f6 (Xa l2 ji).f7 n0 6 (Xa l2 ji).f1 (Xa l2 ji).f2 (Xa l2 ji).f3 0 (Xa l2 ji).f4 n0 (Xa l2 ji).f6 w4 rfl).mono ?_
   rintro e w5 ⟨rfl, hb⟩; refine ⟨_, rfl, ?_⟩; have E5 := zz (E4.out.below hb); have BE5 := zz (BE4.out.below hb); have BQ5 := zz (BQ4.out.below hb); have LB5 := zz (Xe LB4.out hb); have LK5 := zz (LK4.out.below hb); have BX5 := zz (BX4.out.below hb); clear hb BX4 E4 BE4 BQ4 LB4 LK4; refine hK.out _ _ ⟨BE5.out.cells.1, BE5.out.cells.2.1, BE5.out.cells.2.2.1, BE5.out.cells.2.2.2.1, BE5.out.cells.2.2.2.2⟩ (fun hHeld => ?_); clear hK K; refine YP (a' := ?_) ?_ ?_; rotate_left
   ·show Act.put _ (some 38) _ = _
    simp only [Act.put, List.setIfInBounds_toArray, List.set_cons_zero, List.set_cons_succ, XG, XW]
    rfl
   refine Vr (i := 9) (N := some 39) Qn rfl rfl (Zf HT_.out zb13) (by decide) (fun K hK => ?_); refine Ji Try.func153 zb13 rfl #[.agg #[.slice A0 l0.length c0, .slice A1 l1.length c1, .slice (some A9) l2.length c2, .int .i64 a3, .bool a4], .agg #[.int .i64 6, .int .i64 (Xa l2 ji).f1, .int .i64 (Xa l2 ji).f2, .int .i64 (Xa l2 ji).f3, .int .i64 0, .int .i64 (Xa l2 ji).f4, .int .i64 n0, .int .i64 (Xa l2 ji).f6]] (by rfl) rfl rfl zb0 ?_
   with_reducible refine (XM.to k PD PM _ _ _ l0 l1 l2 a3 a4 6 (Xa l2 ji).f1 (Xa l2 ji).f2 (Xa l2 ji).f3 0 (Xa l2 ji).f4 n0 (Xa l2 ji).f6 x1 x2 x3 x4 x5 x6 w0 _ LB5.out E5.out H2.out).mono ?_
   rintro e w6 ⟨B0, d0, B1, d1, B2, d2, rfl, PD', PM', hE6, hS6, hb6, hk6⟩; refine ⟨_, rfl, ?_⟩; have BE6 := zz (BE5.out.kept hk6 nE); have BX6 := zz (BX5.out.kept hk6 nX); have hxl := zz BX5.out.lt; have E6 := zz hE6; have S6 := zz hS6; have LB6 := zz hb6; have BQ6 := zz (BQ5.out.kept hk6 nQ); have LK6 := zz (LK5.out.Dk hk6 (fun j hj => .inl hj)); have hn4 := zz LK5.out.1; have hq4 := zz BQ5.out.lt; clear hE6 hS6 hb6 hk6 E5 BE5 BQ5 LB5 LK5 hHeld
   have nX6 : ¬ PE PD' PM' (.slice B2 x3.length d2) bx := fun h_ => by
    rcases S6.out _ h_ with h1 | h1
    ·exact nX h1
    ·have := hxl.out; omega
   refine hK.out _ _ ⟨BE6.out.cells.1, BE6.out.cells.2.1, BE6.out.cells.2.2.1, BE6.out.cells.2.2.2.1, BE6.out.cells.2.2.2.2⟩ (fun hHeld => ?_); clear hK K; refine YP (a' := ?_) ?_ ?_; rotate_left
   ·show Act.put _ (some 39) _ = _
    simp only [Act.put, List.setIfInBounds_toArray, List.set_cons_zero, List.set_cons_succ, XG, XW]
    rfl
   refine pu 10 29 Qo HT_ ?_; refine pu 11 40 Qp HT_ ?_; refine pu 12 41 RX HT_ ?_; obtain ⟨g0, g1, g2, g3, g4⟩ := BX6.out.cells; obtain ⟨k0, k1, k2, k3, k4⟩ := BX6.out.XC; obtain ⟨y0, y1, y2, y3, y4⟩ := BQ6.out.cells; obtain ⟨f0, f1, f2, f3, f4⟩ := BQ6.out.XC
   have hq7 : bx ≠ w.heap.size + 1 := by omega
   have hq8 : w.heap.size + 1 ≠ bx := by omega
   have nQ6 : ¬ PE PD' PM' (.slice B2 x3.length d2) (w.heap.size + 1) := fun h_ => by
    rcases S6.out _ h_ with h1 | h1
    ·exact nQ h1
    ·have := hq4.out; omega
   have HX := zz (show w.heap.size ≤ bx by omega); refine Uz (i := 14) (N := none) RY rfl rfl (Zf HT_.out zb13) (by decide) (fun K hK => ?_); refine M9 (w1 := ?_) (by rfl) rfl ?_ ?_; rotate_left
   ·go_simp
    rfl
   refine hK.out _ _ ?_; clear hK K; refine pu 15 10 RZ HT_ ?_; refine J4 (J9 HT_.out zb13) ?_
   go_wp2
   refine bodyPost_ret (v := .agg #[.slice B0 x1.length d0, .slice B1 x2.length d1, .slice B2 x3.length d2, .int .i64 x4, .bool x5]) zb128 rfl ⟨B0, d0, B1, d1, B2, d2, rfl, PD', PM', (E6.out.Jj nX6).Jj nQ6, fun j hj => (S6.out j hj).imp id (fun h_ => Nat.le_trans hn4.out h_), ?_, ?_⟩
   ·exact (Xc (Xc (Xc (Xc (Xc (Xc (Xc (Xc (Xc (Xc LB6.out HZX.out) HZX.out) HZX.out) HZX.out) HZX.out) HZ1.out) HZ1.out) HZ1.out) HZ1.out) HZ1.out)
   ·exact ((((((((((LK6.out.setCell (p := ⟨bx, 0, none⟩) (.inr HX.out) _).setCell (p := ⟨bx, 1, none⟩) (.inr HX.out) _).setCell (p := ⟨bx, 2, none⟩) (.inr HX.out) _).setCell (p := ⟨bx, 3, none⟩) (.inr HX.out) _).setCell (p := ⟨bx, 4, none⟩) (.inr HX.out) _).setCell (p := ⟨w.heap.size + 1, 0, none⟩) (.inr (Nat.le_succ _)) _).setCell (p := ⟨w.heap.size + 1, 1, none⟩) (.inr (Nat.le_succ _)) _).setCell (p := ⟨w.heap.size + 1, 2, none⟩) (.inr (Nat.le_succ _)) _).setCell (p := ⟨w.heap.size + 1, 3, none⟩) (.inr (Nat.le_succ _)) _).setCell (p := ⟨w.heap.size + 1, 4, none⟩) (.inr (Nat.le_succ _)) _)
end Go.Proofs.Ytcefiblpnegepaa.Pr
