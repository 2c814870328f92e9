import Derived.Test.YtcefiblpnegepaaQBByq
import Derived.Test.YtcefiblpnegepaaQBSh
import Derived.Test.YtcefiblpnegepaaQBL13D
namespace Go.Proofs.Ytcefiblpnegepaa.Pr
open Go.RowKit Go.PW Go.PL Go.PM
attribute [local go_sem] Y3 Y4 YV YW Yk Yl Y5 Y6
set_option linter.unusedVariables false
set_option linter.unusedSimpArgs false
abbrev Xow : Array Bool := #[false, false, false, false, false, false, false, false, false, false, false, false, false, false, false, false, false, false]
abbrev Xox : Array Bool := #[true, false, false, false, false, false, false, false, false, false, false, false, false, false, false, false, false, false]
abbrev Xoy : Array Bool := #[true, false, true, false, false, false, false, false, false, false, false, false, false, false, false, false, false, false]
abbrev Xoz : Array Bool := #[true, false, true, true, false, false, false, false, false, false, false, false, false, false, false, false, false, false]
abbrev Xo0 : Array Bool := #[true, false, true, true, false, false, true, false, false, false, false, false, false, false, false, false, false, false]
abbrev Xo1 : Array Bool := #[true, false, true, true, false, false, true, false, true, false, false, false, false, false, false, false, false, false]
abbrev Xo2 : Array Bool := #[true, false, true, true, false, false, true, false, true, false, false, false, false, true, false, false, false, false]
abbrev Xo3 : Array Bool := #[true, true, true, true, false, false, true, false, true, false, false, false, false, true, false, false, false, false]
abbrev Xo4 : Array Bool := #[true, true, true, true, true, false, true, false, true, false, false, false, false, true, false, false, false, false]
abbrev Xo5 : Array Bool := #[true, true, true, true, true, true, true, false, true, false, false, false, false, true, false, false, false, false]
abbrev XjS : Array Bool := #[true, true, true, true, true, true, true, true, true, false, false, false, false, true, false, false, false, false]
abbrev XjT : Array Bool := #[true, true, true, true, true, true, true, true, true, true, false, false, false, true, false, false, false, false]
abbrev XjU : Array Bool := #[true, true, true, true, true, true, true, true, true, true, true, false, false, true, false, false, false, false]
abbrev XjV : Array Bool := #[true, true, true, true, true, true, true, true, true, true, true, true, false, true, false, false, false, false]
abbrev XjW : Array Bool := #[true, true, true, true, true, true, true, true, true, true, true, true, true, true, false, false, false, false]
abbrev XjX : Array Bool := #[true, true, true, true, true, true, true, true, true, true, true, true, true, true, true, false, false, false]
abbrev XjY : Array Bool := #[true, true, true, true, true, true, true, true, true, true, true, true, true, true, true, true, false, false]
abbrev XjZ : Array Bool := #[true, true, true, true, true, true, true, true, true, true, true, true, true, true, true, true, true, false]
abbrev Xka : Array Bool := #[true, true, true, true, true, true, true, true, true, true, true, true, true, true, true, true, true, true]
def Ye.l0 : Nat → List Int → Int → Option Bool
 | 0, _, _ => none
 | k + 1, va, i => if i < (va.length : Int) then (if 0 ≤ i then (Ya.f (rd va i) 0 9).bind fun b => if b = true then Ye.l0 k va (wrap64 (i + 1)) else some false else none) else some true
def Ye.r (x : List S25 × List S25 × List S41 × Int × Bool × Bool) (pg : Int) (va : List Int) : Option (List S25 × List S25 × List S41 × Int × Bool × Bool) := if x.2.2.2.2.2 = true then (if 0 ≤ pg then (if pg < (x.2.1.length : Int) then some (x.1, x.2.1.set pg.toNat ⟨(x.2.2.1.length : Int), (Xn x.2.1 pg).f1, va⟩, x.2.2.1, x.2.2.2.1, x.2.2.2.2.1, true) else none) else none) else some x
def Ye.f (k : Nat) (l0 l1 : List S25) (l2 : List S41) (a3 : Int) (a4 : Bool) (tx pg : Int) (va : List Int) : Option (List S25 × List S25 × List S41 × Int × Bool × Bool) := (Vb.f k l0 l1 l2 a3 a4 tx pg).bind fun b0 => if b0 = true then (if (va.length : Int) = 3 then (if 0 ≤ pg then (if pg < (l1.length : Int) then (if (Xn l1 pg).f1 = 0 then some (l0, l1, l2, a3, a4, false) else ((Zr.f k (Xn l1 pg).f0 (Xn l1 pg).f1 (Xn l1 pg).f2).bind fun b1 => if b1 = true then ((YG.f k l2 tx pg).bind fun b2 => if b2 = true then ((Ye.l0 k va 0).bind fun b3 => if b3 = true then ((XM.f k l0 l1 l2 a3 a4 3 tx pg 0 0 0 0 0).bind fun x => Ye.r x pg va) else some (l0, l1, l2, a3, a4, false)) else some (l0, l1, l2, a3, a4, false)) else some (l0, l1, l2, a3, a4, false))) else none) else none) else some (l0, l1, l2, a3, a4, false)) else some (l0, l1, l2, a3, a4, false)
def Ye.T10 : Bool × List (List Nat × List Nat) := (true, [([], []), ([0], [0]), ([], []), ([], []), ([3], [3]), ([4], [4]), ([], []), ([6], [6]), ([], []), ([7, 8], [7, 8]), ([9], [9]), ([10], [10]), ([], []), ([], []), ([12, 13], [12, 13]), ([5, 11, 14], [5, 11, 14]), ([1, 2, 0, 1, 2, 3, 4, 5, 6, 7, 8, 9, 10, 11, 12, 13, 14, 15], [1, 2]), ([16, 15, 14, 0, 1, 2, 3, 4, 5, 6, 7, 8, 9, 10, 11, 12, 13, 14, 15], [15, 16])])
def Ye.B10 : List Nat := [0, 1, 0, 0, 8, 24, 0, 64, 0, 448, 960, 1984, 0, 0, 12288, 32760, 65535, 131071]
theorem Ye.Xtx : JG .any (opsOf Try.f134 10) = Ye.T10 := by kernel_rfl
theorem Ye.Xo6 : Jh Ye.T10.2 Ye.B10 = true := by kernel_rfl
set_option maxHeartbeats 8000000 in
set_option maxRecDepth 100000 in
theorem Ye.to (k : Nat) (PD PM PV : Nat → Prop) (v0 v1 v2 vv : Value) (l0 l1 : List S25) (l2 : List S41) (a3 : Int) (a4 : Bool) (tx pg : Int) (va : List Int) (r1 r2 : List S25) (r3 : List S41) (r4 : Int) (r5 r6 : Bool) (w0 w : World) (hB : Below w0.heap.size w0 w) (hE : VG w0 w PD PM v0 v1 v2 l0 l1 l2)
 (hV : Kd.R (Kd.int .i64) 3 w w0.heap.size PV vv va) (hPV : ∀ j, PV j → ¬ PE PD PM v2 j)
 (h : Ye.f k l0 l1 l2 a3 a4 tx pg va = some (r1, r2, r3, r4, r5, r6)) :
 Calls Try.prog 134 #[.agg #[v0, v1, v2, .int .i64 a3, .bool a4], .int .i64 tx, .int .i64 pg, vv] w (WG w0 w (PE PD PM v2) r1 r2 r3 r4 r5 r6) := by
 obtain ⟨AV, cV, eV⟩ := Kd.Xx hV; subst eV; obtain ⟨A0, c0, e0⟩ := Kd.Xx hE.d; obtain ⟨A1, c1, e1⟩ := Kd.Xx hE.m; obtain ⟨A2, c2, e2⟩ := Kd.Xx hE.l; subst e0 e1 e2; have HE := zz hE; have HB := zz hB; have HZ := zz hB.size; have HZ1 := zz (Nat.le_trans hB.size (Nat.le_succ _)); have hu52 := Try.underlying52
 have nE : ¬ PE PD PM (.slice A2 l2.length c2) w.heap.size := fun h => Nat.lt_irrefl _ (hE.lt _ h)
 have nQ : ¬ PE PD PM (.slice A2 l2.length c2) (w.heap.size + 1) := fun h => by have := hE.lt _ h; omega
 have HPV := zz hPV; have HV := zz hV; clear hV hPV; clear hE hB
 unfold Ye.f at h
 replace h := Option.bind_eq_some_iff.mp h; obtain ⟨b0, hb0, h⟩ := h; have A0_ := zz hb0; have H := zz h; clear hb0 h
 go_enter Try.func134, Try.ntmps134
 go_wp2_with fail
 have E0 := zz (HE.out.below (Xd (Xd (Below.refl w.heap.size w) (.cells #[.slice A0 l0.length c0, .slice A1 l1.length c1, .slice A2 l2.length c2, .int .i64 a3, .bool a4] 52)) (.cells #[.slice none 0 0, .slice none 0 0, .slice none 0 0, .int .i64 0, .bool false] 52)))
 have BE0 : Aside0 (Ym ((w.alloc (.cells #[.slice A0 l0.length c0, .slice A1 l1.length c1, .slice A2 l2.length c2, .int .i64 a3, .bool a4] 52)).alloc (.cells #[.slice none 0 0, .slice none 0 0, .slice none 0 0, .int .i64 0, .bool false] 52)) w.heap.size (.slice A0 l0.length c0) (.slice A1 l1.length c1) (.slice A2 l2.length c2) a3 a4) := ⟨XY (Ym.new _ _ _ _ _ _) _⟩
 have BQ0 : Aside0 (Ym ((w.alloc (.cells #[.slice A0 l0.length c0, .slice A1 l1.length c1, .slice A2 l2.length c2, .int .i64 a3, .bool a4] 52)).alloc (.cells #[.slice none 0 0, .slice none 0 0, .slice none 0 0, .int .i64 0, .bool false] 52)) (w.heap.size + 1) (.slice none 0 0) (.slice none 0 0) (.slice none 0 0) 0 false) := ⟨zb37⟩
 have LB0 := zz (Xd (Xd HB.out (.cells #[.slice A0 l0.length c0, .slice A1 l1.length c1, .slice A2 l2.length c2, .int .i64 a3, .bool a4] 52)) (.cells #[.slice none 0 0, .slice none 0 0, .slice none 0 0, .int .i64 0, .bool false] 52)); have LK0 := zz (((Kept.refl w (PE PD PM (.slice A2 l2.length c2))).alloc (.cells #[.slice A0 l0.length c0, .slice A1 l1.length c1, .slice A2 l2.length c2, .int .i64 a3, .bool a4] 52)).alloc (.cells #[.slice none 0 0, .slice none 0 0, .slice none 0 0, .int .i64 0, .bool false] 52)); clear HB; have V0 := zz (Kd.Xz HV.out (Xd (Xd (Below.refl w.heap.size w) (.cells #[.slice A0 l0.length c0, .slice A1 l1.length c1, .slice A2 l2.length c2, .int .i64 a3, .bool a4] 52)) (.cells #[.slice none 0 0, .slice none 0 0, .slice none 0 0, .int .i64 0, .bool false] 52))); clear HV; refine (Vb.calls k A0 c0 l0 A1 c1 l1 A2 c2 l2 a3 a4 tx pg b0 _ (Kd.Xi E0.out.d).2.2 (Kd.Xi E0.out.d).2.1 (Kd.Xi E0.out.m).2.2 (Kd.Xi E0.out.m).2.1 (Kd.Xi E0.out.l).2.2 (Kd.Xi E0.out.l).2.1 A0_.out).mono ?_; rintro e w1 ⟨rfl, hb⟩; have E1 := zz (E0.out.below hb); have BE1 := zz (BE0.out.below hb); have BQ1 := zz (BQ0.out.below hb); have LB1 := zz (Xe LB0.out hb); have LK1 := zz (LK0.out.below hb); have V1 := zz (Kd.Xz V0.out hb); clear hb V0 E0 BE0 BQ0 LB0 LK0; have h := H.out; clear H
 cases b0 with
 | false =>
  simp only [Bool.false_eq_true, if_false, Option.some.injEq, Prod.mk.injEq] at h; obtain ⟨rfl, rfl, rfl, rfl, rfl, rfl⟩ := h; obtain ⟨x0, x1, x2, x3, x4⟩ := BE1.out.cells; obtain ⟨y0, y1, y2, y3, y4⟩ := BQ1.out.cells; obtain ⟨f0, f1, f2, f3, f4⟩ := BQ1.out.XC
  go_wp2
  refine bodyPost_ret (v := .tuple #[.agg #[.slice A0 l0.length c0, .slice A1 l1.length c1, .slice A2 l2.length c2, .int .i64 a3, .bool a4], .bool false]) zb102 rfl ⟨A0, c0, A1, c1, A2, c2, rfl, PD, PM, E1.out.Jj nQ, fun j hj => .inl hj, ?_, ?_⟩
  ·exact Xc (Xc (Xc (Xc (Xc LB1.out HZ1.out) HZ1.out) HZ1.out) HZ1.out) HZ1.out
  ·exact ((((LK1.out.setCell (p := ⟨w.heap.size + 1, 0, none⟩) (.inr (Nat.le_succ _)) _).setCell (p := ⟨w.heap.size + 1, 1, none⟩) (.inr (Nat.le_succ _)) _).setCell (p := ⟨w.heap.size + 1, 2, none⟩) (.inr (Nat.le_succ _)) _).setCell (p := ⟨w.heap.size + 1, 3, none⟩) (.inr (Nat.le_succ _)) _).setCell (p := ⟨w.heap.size + 1, 4, none⟩) (.inr (Nat.le_succ _)) _
 | true =>
  simp only [if_true] at h
  by_cases q3 : (va.length : Int) = 3
  rotate_left
  ·rw [if_neg q3] at h
   have q3b : ((va.length : Int) != 3) = true := bne_iff_ne.mpr q3; clear q3; simp only [Option.some.injEq, Prod.mk.injEq] at h; obtain ⟨rfl, rfl, rfl, rfl, rfl, rfl⟩ := h; obtain ⟨x0, x1, x2, x3, x4⟩ := BE1.out.cells; obtain ⟨y0, y1, y2, y3, y4⟩ := BQ1.out.cells; obtain ⟨f0, f1, f2, f3, f4⟩ := BQ1.out.XC
   go_wp2
   refine bodyPost_ret (v := .tuple #[.agg #[.slice A0 l0.length c0, .slice A1 l1.length c1, .slice A2 l2.length c2, .int .i64 a3, .bool a4], .bool false]) zb102 rfl ⟨A0, c0, A1, c1, A2, c2, rfl, PD, PM, E1.out.Jj nQ, fun j hj => .inl hj, ?_, ?_⟩
   ·exact Xc (Xc (Xc (Xc (Xc LB1.out HZ1.out) HZ1.out) HZ1.out) HZ1.out) HZ1.out
   ·exact ((((LK1.out.setCell (p := ⟨w.heap.size + 1, 0, none⟩) (.inr (Nat.le_succ _)) _).setCell (p := ⟨w.heap.size + 1, 1, none⟩) (.inr (Nat.le_succ _)) _).setCell (p := ⟨w.heap.size + 1, 2, none⟩) (.inr (Nat.le_succ _)) _).setCell (p := ⟨w.heap.size + 1, 3, none⟩) (.inr (Nat.le_succ _)) _).setCell (p := ⟨w.heap.size + 1, 4, none⟩) (.inr (Nat.le_succ _)) _
  ·rw [if_pos q3] at h
   have q3b : ((va.length : Int) != 3) = false := bne_eq_false_iff_eq.mpr q3; have Q3 := zz q3; clear q3
   by_cases q0 : 0 ≤ pg
   rotate_left
   ·rw [if_neg q0] at h
    exact absurd h (by simp)
   rw [if_pos q0] at h
   by_cases q1 : pg < (l1.length : Int)
   rotate_left
   ·rw [if_neg q1] at h
    exact absurd h (by simp)
   rw [if_pos q1] at h; obtain ⟨gm, cm_, em, hgmb, hgml, hgmt⟩ := Kd.Nv E1.out.m (by omega)
   injection em with em1 em2 em3
   subst em1 em3; clear em2 hgmt; have Q0 := zz q0; have Q1 := zz q1; obtain ⟨ce, hcl, hM, hcc, hfr⟩ := Kd.FO E1.out.m z25 pg q0 q1; obtain ⟨v7, rfl, hR7⟩ := JP hM; obtain ⟨A7, c7, e7⟩ := Kd.Xx hR7
   change v7 = .slice A7 (Xn l1 pg).f2.length c7 at e7
   subst e7; have g0 : w1.cell? ⟨gm, (pg : Int).toNat * 3, none⟩ = some (.int .i64 (Xn l1 pg).f0) := hcc 0 _ rfl; have g1 : w1.cell? ⟨gm, (pg : Int).toNat * 3 + 1, none⟩ = some (.int .i64 (Xn l1 pg).f1) := hcc 1 _ rfl; have g2 : w1.cell? ⟨gm, (pg : Int).toNat * 3 + 2, none⟩ = some (.slice A7 (Xn l1 pg).f2.length c7) := hcc 2 _ rfl; have R7 := zz (show Kd.R (Kd.int .i64) 3 w1 w0.heap.size _ (.slice A7 (Xn l1 pg).f2.length c7) (Xn l1 pg).f2 from hR7); clear hcl hM hcc hfr hR7; have p0 := eq_true q0; have p1 := eq_true q1
   by_cases q2 : (Xn l1 pg).f1 = 0
   ·rw [if_pos q2] at h
    have q2b : ((Xn l1 pg).f1 == 0) = true := beq_iff_eq.mpr q2; clear q2 q0 q1; simp only [Option.some.injEq, Prod.mk.injEq] at h; obtain ⟨rfl, rfl, rfl, rfl, rfl, rfl⟩ := h; obtain ⟨x0, x1, x2, x3, x4⟩ := BE1.out.cells; obtain ⟨y0, y1, y2, y3, y4⟩ := BQ1.out.cells; obtain ⟨f0, f1, f2, f3, f4⟩ := BQ1.out.XC
    go_wp2
    refine bodyPost_ret (v := .tuple #[.agg #[.slice A0 l0.length c0, .slice (some ⟨gm, 0, none⟩) l1.length c1, .slice A2 l2.length c2, .int .i64 a3, .bool a4], .bool false]) zb102 rfl ⟨A0, c0, _, c1, A2, c2, rfl, PD, PM, E1.out.Jj nQ, fun j hj => .inl hj, ?_, ?_⟩
    ·exact Xc (Xc (Xc (Xc (Xc LB1.out HZ1.out) HZ1.out) HZ1.out) HZ1.out) HZ1.out
    ·exact ((((LK1.out.setCell (p := ⟨w.heap.size + 1, 0, none⟩) (.inr (Nat.le_succ _)) _).setCell (p := ⟨w.heap.size + 1, 1, none⟩) (.inr (Nat.le_succ _)) _).setCell (p := ⟨w.heap.size + 1, 2, none⟩) (.inr (Nat.le_succ _)) _).setCell (p := ⟨w.heap.size + 1, 3, none⟩) (.inr (Nat.le_succ _)) _).setCell (p := ⟨w.heap.size + 1, 4, none⟩) (.inr (Nat.le_succ _)) _
   ·rw [if_neg q2] at h
    have q2b : ((Xn l1 pg).f1 == 0) = false := beq_eq_false_iff_ne.mpr q2; clear q2 q0 q1; replace h := Option.bind_eq_some_iff.mp h; obtain ⟨b1, hb1, h⟩ := h; have A1_ := zz hb1; have H := zz h; clear hb1 h; obtain ⟨x0, x1, x2, x3, x4⟩ := BE1.out.cells; obtain ⟨y0, y1, y2, y3, y4⟩ := BQ1.out.cells; obtain ⟨f0, f1, f2, f3, f4⟩ := BQ1.out.XC
    go_wp2_with fail
    refine (Zr.calls k (Xn l1 pg).f0 (Xn l1 pg).f1 A7 c7 (Xn l1 pg).f2 b1 _ (Kd.Xi R7.out).2.2 (Kd.Xi R7.out).2.1 A1_.out).mono ?_; rintro e w2 ⟨rfl, hb⟩; clear g0 g1 g2 R7; clear x0 x1 x2 x3 x4 y0 y1 y2 y3 y4 f0 f1 f2 f3 f4; have E2 := zz (E1.out.below hb); have BE2 := zz (BE1.out.below hb); have BQ2 := zz (BQ1.out.below hb); have LB2 := zz (Xe LB1.out hb); have LK2 := zz (LK1.out.below hb); have V2 := zz (Kd.Xz V1.out hb); clear hb V1 E1 BE1 BQ1 LB1 LK1; have h := H.out; clear H
    cases b1 with
    | false =>
     simp only [Bool.false_eq_true, if_false, Option.some.injEq, Prod.mk.injEq] at h; obtain ⟨rfl, rfl, rfl, rfl, rfl, rfl⟩ := h; obtain ⟨x0, x1, x2, x3, x4⟩ := BE2.out.cells; obtain ⟨y0, y1, y2, y3, y4⟩ := BQ2.out.cells; obtain ⟨f0, f1, f2, f3, f4⟩ := BQ2.out.XC
     go_wp2
     refine bodyPost_ret (v := .tuple #[.agg #[.slice A0 l0.length c0, .slice (some ⟨gm, 0, none⟩) l1.length c1, .slice A2 l2.length c2, .int .i64 a3, .bool a4], .bool false]) zb102 rfl ⟨A0, c0, _, c1, A2, c2, rfl, PD, PM, E2.out.Jj nQ, fun j hj => .inl hj, ?_, ?_⟩
     ·exact Xc (Xc (Xc (Xc (Xc LB2.out HZ1.out) HZ1.out) HZ1.out) HZ1.out) HZ1.out
     ·exact ((((LK2.out.setCell (p := ⟨w.heap.size + 1, 0, none⟩) (.inr (Nat.le_succ _)) _).setCell (p := ⟨w.heap.size + 1, 1, none⟩) (.inr (Nat.le_succ _)) _).setCell (p := ⟨w.heap.size + 1, 2, none⟩) (.inr (Nat.le_succ _)) _).setCell (p := ⟨w.heap.size + 1, 3, none⟩) (.inr (Nat.le_succ _)) _).setCell (p := ⟨w.heap.size + 1, 4, none⟩) (.inr (Nat.le_succ _)) _
    | true =>
     simp only [if_true] at h; replace h := Option.bind_eq_some_iff.mp h; obtain ⟨b2, hb2, h⟩ := h; have A2_ := zz hb2; have H := zz h; clear hb2 h; obtain ⟨x0, x1, x2, x3, x4⟩ := BE2.out.cells; obtain ⟨y0, y1, y2, y3, y4⟩ := BQ2.out.cells; obtain ⟨f0, f1, f2, f3, f4⟩ := BQ2.out.XC
     go_wp2_with fail
     clear x0 x1 x2 x3 x4 y0 y1 y2 y3 y4 f0 f1 f2 f3 f4; refine (YG.calls k A2 c2 l2 tx pg b2 _ (Kd.Xi E2.out.l).2.2 (Kd.Xi E2.out.l).2.1 A2_.out).mono ?_; rintro e w3 ⟨rfl, hb⟩; have E3 := zz (E2.out.below hb); have BE3 := zz (BE2.out.below hb); have BQ3 := zz (BQ2.out.below hb); have LB3 := zz (Xe LB2.out hb); have LK3 := zz (LK2.out.below hb); have V3 := zz (Kd.Xz V2.out hb); clear hb V2 E2 BE2 BQ2 LB2 LK2; have h := H.out; clear H
     cases b2 with
     | false =>
      simp only [Bool.false_eq_true, if_false, Option.some.injEq, Prod.mk.injEq] at h; obtain ⟨rfl, rfl, rfl, rfl, rfl, rfl⟩ := h; obtain ⟨x0, x1, x2, x3, x4⟩ := BE3.out.cells; obtain ⟨y0, y1, y2, y3, y4⟩ := BQ3.out.cells; obtain ⟨f0, f1, f2, f3, f4⟩ := BQ3.out.XC
      go_wp2
      refine bodyPost_ret (v := .tuple #[.agg #[.slice A0 l0.length c0, .slice (some ⟨gm, 0, none⟩) l1.length c1, .slice A2 l2.length c2, .int .i64 a3, .bool a4], .bool false]) zb102 rfl ⟨A0, c0, _, c1, A2, c2, rfl, PD, PM, E3.out.Jj nQ, fun j hj => .inl hj, ?_, ?_⟩
      ·exact Xc (Xc (Xc (Xc (Xc LB3.out HZ1.out) HZ1.out) HZ1.out) HZ1.out) HZ1.out
      ·exact ((((LK3.out.setCell (p := ⟨w.heap.size + 1, 0, none⟩) (.inr (Nat.le_succ _)) _).setCell (p := ⟨w.heap.size + 1, 1, none⟩) (.inr (Nat.le_succ _)) _).setCell (p := ⟨w.heap.size + 1, 2, none⟩) (.inr (Nat.le_succ _)) _).setCell (p := ⟨w.heap.size + 1, 3, none⟩) (.inr (Nat.le_succ _)) _).setCell (p := ⟨w.heap.size + 1, 4, none⟩) (.inr (Nat.le_succ _)) _
     | true =>
      simp only [if_true] at h; replace h := Option.bind_eq_some_iff.mp h; obtain ⟨b3, hb3, h⟩ := h; have A3_ := zz hb3; have H := zz h; clear hb3 h; obtain ⟨x0, x1, x2, x3, x4⟩ := BE3.out.cells; obtain ⟨y0, y1, y2, y3, y4⟩ := BQ3.out.cells; obtain ⟨f0, f1, f2, f3, f4⟩ := BQ3.out.XC
      go_wp2
      clear x0 x1 x2 x3 x4 y0 y1 y2 y3 y4 f0 f1 f2 f3 f4
      go_loopg [10] k (fun kq v10 w' => ∃ x10 : Int, v10 = .int .i64 x10 ∧ Aside0 (Ye.l0 kq va x10 = some b3) ∧ Aside0 (kq ≤ k) ∧ Aside0 (Below w3.heap.size w3 w'))
      case atStart => exact ⟨0, rfl, A3_, ⟨Nat.le_refl _⟩, ⟨Below.refl _ _⟩⟩
      case round =>
       clear A3_ A1_ A2_ A0_; obtain ⟨x10, rfl, HA, HK1, HBL⟩ := hrel; have hb := HBL.out; have E4 := zz (E3.out.below hb); have BE4 := zz (BE3.out.below hb); have BQ4 := zz (BQ3.out.below hb); have LB4 := zz (Xe LB3.out hb); have LK4 := zz (LK3.out.below hb); have V4 := zz (Kd.Xz V3.out hb); clear hb
       cases gk with
       | zero => exact absurd HA.out (by simp [Ye.l0])
       | succ k1 =>
        have h := HA.out; clear HA; simp only [Ye.l0] at h
        by_cases q : x10 < (va.length : Int)
        ·rw [if_pos q] at h
         by_cases q0 : 0 ≤ x10
         rotate_left
         ·rw [if_neg q0] at h
          exact absurd h (by simp)
         rw [if_pos q0] at h; obtain ⟨A9, e9, gv⟩ := Kd.Vv (Kd.Xi V4.out).2.2 x10 q0 q; subst e9; have p0 := eq_true q0; have p1 := eq_true q; have Q4 := zz q; have Q5 := zz q0; clear q q0; replace h := Option.bind_eq_some_iff.mp h; obtain ⟨b4, hb4, h⟩ := h; have A4_ := zz hb4; have H' := zz h; clear hb4 h
         go_wp2_with fail
         refine (Ya.calls (rd va x10) 0 9 b4 _ A4_.out).mono ?_; rintro e w5 ⟨rfl, nd, hw⟩; have hb := Vd hw; clear hw nd gv; have HBL5 := zz (Xe HBL.out hb); have E5 := zz (E4.out.below hb); have BE5 := zz (BE4.out.below hb); have BQ5 := zz (BQ4.out.below hb); have LB5 := zz (Xe LB4.out hb); have LK5 := zz (LK4.out.below hb); have V5 := zz (Kd.Xz V4.out hb); clear hb V4 E4 BE4 BQ4 LB4 LK4
         cases b4 with
         | true =>
          have h' := H'.out; simp only [if_true] at h'; have H2 := zz h'; clear h' H'
          go_wp2
          go_roundg k1
          case measure => have := HK1.out; omega
          case rel => exact ⟨_, rfl, ⟨(XG (x10 + 1)).symm ▸ H2.out⟩, ⟨zb61⟩, HBL5⟩
         | false =>
          have h' := H'.out; simp only [Bool.false_eq_true, if_false, Option.some.injEq] at h'; subst h'; have h := H.out; clear H H'; simp only [Bool.false_eq_true, if_false, Option.some.injEq, Prod.mk.injEq] at h; obtain ⟨rfl, rfl, rfl, rfl, rfl, rfl⟩ := h; obtain ⟨x0, x1, x2, x3, x4⟩ := BE5.out.cells; obtain ⟨y0, y1, y2, y3, y4⟩ := BQ5.out.cells; obtain ⟨f0, f1, f2, f3, f4⟩ := BQ5.out.XC
          go_wp2
          refine bodyPost_ret (v := .tuple #[.agg #[.slice A0 l0.length c0, .slice (some ⟨gm, 0, none⟩) l1.length c1, .slice A2 l2.length c2, .int .i64 a3, .bool a4], .bool false]) zb102 rfl ⟨A0, c0, _, c1, A2, c2, rfl, PD, PM, E5.out.Jj nQ, fun j hj => .inl hj, ?_, ?_⟩
          ·exact Xc (Xc (Xc (Xc (Xc LB5.out HZ1.out) HZ1.out) HZ1.out) HZ1.out) HZ1.out
          ·exact ((((LK5.out.setCell (p := ⟨w.heap.size + 1, 0, none⟩) (.inr (Nat.le_succ _)) _).setCell (p := ⟨w.heap.size + 1, 1, none⟩) (.inr (Nat.le_succ _)) _).setCell (p := ⟨w.heap.size + 1, 2, none⟩) (.inr (Nat.le_succ _)) _).setCell (p := ⟨w.heap.size + 1, 3, none⟩) (.inr (Nat.le_succ _)) _).setCell (p := ⟨w.heap.size + 1, 4, none⟩) (.inr (Nat.le_succ _)) _
        ·rw [if_neg q] at h
         have qb : decide (x10 < (va.length : Int)) = false := decide_eq_false q; simp only [Option.some.injEq] at h; subst h; clear q; have h := H.out; clear H; simp only [if_true] at h; replace h := Option.bind_eq_some_iff.mp h; obtain ⟨⟨m1, m2, m3, m4, m5, m6⟩, hm, h⟩ := h; have A5_ := zz hm; have H := zz h; clear hm h; obtain ⟨z0, z1, z2, z3, z4⟩ := BE4.out.cells; obtain ⟨y0, y1, y2, y3, y4⟩ := BQ4.out.cells; obtain ⟨f0, f1, f2, f3, f4⟩ := BQ4.out.XC
         go_wp2_with fail
         clear z0 z1 z2 z3 z4 y0 y1 y2 y3 y4 f0 f1 f2 f3 f4; refine (XM.to k PD PM _ _ _ l0 l1 l2 a3 a4 3 tx pg 0 0 0 0 0 m1 m2 m3 m4 m5 m6 w0 _ LB4.out E4.out A5_.out).mono ?_; rintro e w6 ⟨B0, d0, B1, d1, B2, d2, rfl, PD', PM', hE6, hS6, hb6, hk6⟩; have V6 := zz (Kd.Fa V4.out hk6 HPV.out); have E6 := zz hE6; have S6 := zz hS6; have LB6 := zz hb6; have BQ6 := zz (BQ4.out.kept hk6 nQ); have LK6 := zz (LK4.out.Dk hk6 (fun j hj => .inl hj)); have hn4 := zz LK4.out.1; have hq4 := zz BQ4.out.lt; clear hE6 hS6 hb6 hk6 E4 BE4 BQ4 LB4 LK4 V4
         have nQ6 : ¬ PE PD' PM' (.slice B2 m3.length d2) (w.heap.size + 1) := fun h_ => by
          rcases S6.out _ h_ with h1 | h1
          ·exact nQ h1
          ·have := hq4.out; omega
         have hq6 : w.heap.size + 1 < w6.heap.size := BQ6.out.lt
         have hq7 : w6.heap.size ≠ w.heap.size + 1 := by omega
         have hq8 : w.heap.size + 1 ≠ w6.heap.size := by omega
         obtain ⟨y0, y1, y2, y3, y4⟩ := BQ6.out.cells; obtain ⟨f0, f1, f2, f3, f4⟩ := BQ6.out.XC; have h := H.out; clear H
         unfold Ye.r at h
         cases m6 with
         | false =>
          simp only [Bool.false_eq_true, if_false, Option.some.injEq, Prod.mk.injEq] at h; obtain ⟨rfl, rfl, rfl, rfl, rfl, rfl⟩ := h
          go_wp2
          refine bodyPost_ret (v := .tuple #[.agg #[.slice B0 m1.length d0, .slice B1 m2.length d1, .slice B2 m3.length d2, .int .i64 m4, .bool m5], .bool false]) zb102 rfl ⟨B0, d0, B1, d1, B2, d2, rfl, PD', PM', (E6.out.Jj nQ6).below (Xd (Below.refl _ _) _), fun j hj => (S6.out j hj).imp id (fun h_ => Nat.le_trans hn4.out h_), ?_, ?_⟩
          ·exact Xd (Xc (Xc (Xc (Xc (Xc LB6.out HZ1.out) HZ1.out) HZ1.out) HZ1.out) HZ1.out) _
          ·exact (((((LK6.out.setCell (p := ⟨w.heap.size + 1, 0, none⟩) (.inr (Nat.le_succ _)) _).setCell (p := ⟨w.heap.size + 1, 1, none⟩) (.inr (Nat.le_succ _)) _).setCell (p := ⟨w.heap.size + 1, 2, none⟩) (.inr (Nat.le_succ _)) _).setCell (p := ⟨w.heap.size + 1, 3, none⟩) (.inr (Nat.le_succ _)) _).setCell (p := ⟨w.heap.size + 1, 4, none⟩) (.inr (Nat.le_succ _)) _).alloc _
         | true =>
          simp only [if_true] at h
          by_cases q0 : 0 ≤ pg
          rotate_left
          ·rw [if_neg q0] at h
           exact absurd h (by simp)
          rw [if_pos q0] at h
          by_cases q1 : pg < (m2.length : Int)
          rotate_left
          ·rw [if_neg q1] at h
           exact absurd h (by simp)
          rw [if_pos q1] at h; simp only [Option.some.injEq, Prod.mk.injEq] at h; obtain ⟨rfl, rfl, rfl, rfl, rfl, rfl⟩ := h; have p2 := eq_true q1; have Q6 := zz q1; clear q0 q1; obtain ⟨gn, cn, en, hgnb, hgnl, hgnt⟩ := Kd.Nv E6.out.m (by have := Q6.out; have := Q0.out; omega)
          injection en with en1 en2 en3
          subst en1 en3; clear en2 hgnt y0 y1 y2 y3 y4 f0 f1 f2 f3 f4
          go_wp2_with fail
          have hxw := zz (show w6.heap.size < (w6.alloc (.cells #[.slice B0 m1.length d0, .slice (some ⟨gn, 0, none⟩) m2.length d1, .slice B2 m3.length d2, .int .i64 m4, .bool m5] 52)).heap.size by simp)
          have BX7 : Aside0 (Ym (w6.alloc (.cells #[.slice B0 m1.length d0, .slice (some ⟨gn, 0, none⟩) m2.length d1, .slice B2 m3.length d2, .int .i64 m4, .bool m5] 52)).drew w6.heap.size (.slice B0 m1.length d0) (.slice (some ⟨gn, 0, none⟩) m2.length d1) (.slice B2 m3.length d2) m4 m5) := ⟨Yd (Ym.new _ _ _ _ _ _)⟩
          have hb : Below w6.heap.size w6 (w6.alloc (.cells #[.slice B0 m1.length d0, .slice (some ⟨gn, 0, none⟩) m2.length d1, .slice B2 m3.length d2, .int .i64 m4, .bool m5] 52)).drew := XX (Xd (Below.refl _ _) _)
          have nX6 : ¬ PE PD' PM' (.slice B2 m3.length d2) w6.heap.size := fun h_ => Nat.lt_irrefl _ (E6.out.lt _ h_)
          have HX7 := zz (Nat.lt_of_lt_of_le hq6 hb.size); have E7 := zz (E6.out.below hb); have BQ7 := zz (BQ6.out.below hb); have V7 := zz (Kd.Xz V6.out hb); have LB7 := zz (Xe LB6.out hb); have LK7 := zz (LK6.out.below hb); have EL6 := zz E6.out.lt; have hn6 := zz LK6.out.1; clear hb E6 BQ6 V6 LB6 LK6; obtain ⟨ce, hcl, hM, hcc, hfr⟩ := Kd.FO E7.out.m z25 pg Q0.out Q6.out; obtain ⟨v7, rfl, hR7⟩ := JP hM; have g1 : (w6.alloc (.cells #[.slice B0 m1.length d0, .slice (some ⟨gn, 0, none⟩) m2.length d1, .slice B2 m3.length d2, .int .i64 m4, .bool m5] 52)).drew.cell? ⟨gn, (pg : Int).toNat * 3 + 1, none⟩ = some (.int .i64 (Xn m2 pg).f1) := hcc 1 _ rfl; clear hcl hM hcc hfr hR7; refine ZR (n := 18) (S := fun w' => w'.cell? ⟨w6.heap.size, 1, none⟩ = some (.slice (some ⟨gn, 0, none⟩) m2.length d1) ∧ w'.cell? ⟨w6.heap.size, 2, none⟩ = some (.slice B2 m3.length d2) ∧ w'.cell? ⟨gn, (pg : Int).toNat * 3 + 1, none⟩ = some (.int .i64 (Xn m2 pg).f1)) (ds := [17]) Xow zb13 rfl rfl ⟨BX7.out.cells.2.1, BX7.out.cells.2.2.1, g1⟩ (fun hHeld => ?_); refine ZV Ye.Xtx Ye.Xo6 (fun HT_ HW_ => ?_); generalize (w6.alloc (.cells #[.slice B0 m1.length d0, .slice (some ⟨gn, 0, none⟩) m2.length d1, .slice B2 m3.length d2, .int .i64 m4, .bool m5] 52)).drew = w7 at hxw BX7 HX7 E7 BQ7 V7 LB7 LK7 g1 hHeld ⊢; refine pu 0 72 Xox HT_ ?_; refine pu 2 74 Xoy HT_ ?_; refine pu 3 75 Xoz HT_ ?_; refine pu 6 78 Xo0 HT_ ?_; refine pu 8 80 Xo1 HT_ ?_; refine pu 13 85 Xo2 HT_ ?_
          refine tk 1 73 Xo3 HT_ HW_ hHeld ?_; refine tk 4 76 Xo4 HT_ HW_ hHeld ?_; refine pu 5 77 Xo5 HT_ ?_; refine tk 7 79 XjS HT_ HW_ hHeld ?_; refine pu 9 81 XjT HT_ ?_; refine pu 10 82 XjU HT_ ?_; refine tk 11 83 XjV HT_ HW_ hHeld ?_; refine Vr (i := 12) (N := some 84) XjW rfl rfl (Zf HT_.out zb13) (by decide) (fun K hK => ?_)
          refine Kd.VC (Kd.int .i64) (w0 := w7) _ 3 ?hg (N := 84) ?hd (xs := ([] : List Int)) (inner := []) (ok := fun _ => True) (okp := fun _ => True) ?hr ?hp (fun _ hk => hk) trivial (Below.refl w7.heap.size w7) (Nat.le_refl _) (by simp) ?_; (case hd => rfl); (case hg => rfl); (case hr => exact zb21); (case hp => exact zb121)
          intro v8 w8 hr8 hb hg8 hat8; have HR8 := zz hr8; have HB8 := zz hb; have g8 := (hb.cell (p := ⟨gn, (pg : Int).toNat * 3 + 1, none⟩) (Kd.J2 E7.out.m gn rfl)).trans g1; have BX8 := zz (BX7.out.below hb); have V8 := zz (Kd.Xz V7.out hb); clear hr8 hb hg8 hat8; refine hK.out _ _ ⟨BX8.out.cells.2.1, BX8.out.cells.2.2.1, g8⟩ (fun hHeld => ?_); clear hK K; refine YP (a' := ?_) ?_ ?_; rotate_left
          ·show Act.put _ (some 84) _ = _
           simp only [Act.put, List.setIfInBounds_toArray, List.set_cons_zero, List.set_cons_succ, XG, XW]
           rfl
          refine Vr (i := 14) (N := some 86) XjX rfl rfl (Zf HT_.out zb13) (by decide) (fun K hK => ?_); refine Kd.JH (Kd.int .i64) (w0 := w7) w7.heap.size (by rfl) (.tmp 84) (.tmp 85) 23 3 (.int .i64 0) 8 rfl Try.underlying23 info3 rfl (by decide) (by omega) v8 [] va _ _ _ (fun _ => True) (fun _ => False) rfl rfl ?aO ?aR (fun _ _ h => h) (fun _ h => h.elim) ?aF ?aB ?aS ?aL ?_
          (case aR => exact (Kd.Xi V8.out).2.2)
          (case aB => exact HB8.out)
          (case aF => exact zb139)
          (case aO => exact HR8.out)
          (case aS => exact HB8.out.size)
          (case aL => have := Q3.out; simp only [List.length_nil]; omega)
          intro v9 w9 ho9 hb hg hat; rw [List.nil_append] at ho9; have g9 := (hb.cell (p := ⟨gn, (pg : Int).toNat * 3 + 1, none⟩) (Kd.J2 E7.out.m gn rfl)).trans g1; have BX9 := zz (BX7.out.below hb); have BQ9 := zz (BQ7.out.below hb); have E9 := zz (E7.out.below hb); have LB9 := zz (Xe LB7.out hb); have LK9 := zz (LK7.out.below hb); have RV := zz (Kd.Zv ho9); have hn7 := zz LK7.out.1; have hb7 := zz LB7.out.size; have EL7 := zz E7.out.lt; have hgn7 : gn < w7.heap.size := Kd.J2 E7.out.m gn rfl; obtain ⟨A10, c10, e10⟩ := Kd.Xx ho9; subst e10; clear ho9 hb hg hat BX7 BX8 BQ7 E7 LB7 LK7 V7 V8 HR8 HB8 g1 g8; obtain ⟨ce, hcl, hM, hcc, hfr⟩ := Kd.FO E9.out.m z25 pg Q0.out Q6.out; obtain ⟨v11, rfl, hR11⟩ := JP hM; have hx0 : w9.cell? ⟨gn, (pg : Int).toNat * 3, none⟩ = some (.int .i64 (Xn m2 pg).f0) := hcc 0 _ rfl; have hx1 : w9.cell? ⟨gn, (pg : Int).toNat * 3 + 1, none⟩ = some (.int .i64 (Xn m2 pg).f1) := hcc 1 _ rfl; have hx2 : w9.cell? ⟨gn, (pg : Int).toNat * 3 + 2, none⟩ = some v11 := hcc 2 _ rfl; have hf0 : w9.frozen? ⟨gn, (pg : Int).toNat * 3, none⟩ = false := hfr 0; have hf1 : w9.frozen? ⟨gn, (pg : Int).toNat * 3 + 1, none⟩ = false := hfr 1; have hf2 : w9.frozen? ⟨gn, (pg : Int).toNat * 3 + 2, none⟩ = false := hfr 2; have HP := Kd.Xax (Kd.XN E9.out.m (ok' := fun j => PM' j ∨ w7.heap.size ≤ j) (fun j hj => .inl hj)) pg Q0.out Q6.out (seg := [.int .i64 (m3.length : Int), .int .i64 (Xn m2 pg).f1, .slice A10 va.length c10]) (j := 0) (okp := fun j => w7.heap.size ≤ j) hcl hcc (show 3 ≤ 3 from by decide) (x' := (⟨(m3.length : Int), (Xn m2 pg).f1, va⟩ : S25)) (WJ _ _ _ (⟨(m3.length : Int), (Xn m2 pg).f1, va⟩ : S25) (Kd.XN (Kd.XT RV.out hb7.out) (fun j hj => hj.2.1))) (fun j hj => ⟨.inr hj, by have := hgn7; omega⟩)
          have HQ := zz HP.1; clear hcl hM hcc hfr HP hR11; refine hK.out _ _ ⟨BX9.out.cells.2.1, BX9.out.cells.2.2.1, g9⟩ (fun hHeld => ?_); clear hK K; refine YP (a' := ?_) ?_ ?_; rotate_left
          ·show Act.put _ (some 86) _ = _
           simp only [Act.put, List.setIfInBounds_toArray, List.set_cons_zero, List.set_cons_succ, XG, XW]
           rfl
          refine pu 15 87 XjY HT_ ?_; refine pu 16 88 XjZ HT_ ?_; refine Uz (i := 17) (N := none) Xka rfl rfl (Zf HT_.out zb13) (by decide) (fun K hK => ?_); refine M9 (w1 := ?_) (by rfl) rfl ?_ ?_; rotate_left
          ·go_simp
           rfl
          refine hK.out _ _ ?_; clear hK K; refine J4 (J9 HT_.out zb13) ?_; have hPg : PM' gn := E9.out.m.1 gn rfl; have KK : Kept w9 (((w9.setCell ⟨gn, (pg : Int).toNat * 3, none⟩ (.int .i64 (m3.length : Int))).setCell ⟨gn, (pg : Int).toNat * 3 + 1, none⟩ (.int .i64 (Xn m2 pg).f1)).setCell ⟨gn, (pg : Int).toNat * 3 + 2, none⟩ (.slice A10 va.length c10)) (fun j => j = gn) := (((Kept.refl w9 (fun j => j = gn)).setCell (p := ⟨gn, (pg : Int).toNat * 3, none⟩) (.inl rfl) (.int .i64 (m3.length : Int))).setCell (p := ⟨gn, (pg : Int).toNat * 3 + 1, none⟩) (.inl rfl) (.int .i64 (Xn m2 pg).f1)).setCell (p := ⟨gn, (pg : Int).toNat * 3 + 2, none⟩) (.inl rfl) (.slice A10 va.length c10)
          have nXg : w6.heap.size ≠ gn := fun e_ => nX6 (.inr (.inl (e_ ▸ hPg)))
          have nQg : w.heap.size + 1 ≠ gn := fun e_ => nQ6 (.inr (.inl (e_ ▸ hPg)))
          have hPg0 := S6.out gn (.inr (.inl hPg)); refine Xby (fun w' => VG w0 w' PD' (fun j => (PM' j ∨ w7.heap.size ≤ j) ∧ j < w'.heap.size) (.slice B0 m1.length d0) (.slice (some ⟨gn, 0, none⟩) m2.length d1) (.slice B2 m3.length d2) m1 (m2.set pg.toNat ⟨(m3.length : Int), (Xn m2 pg).f1, va⟩) m3 ∧ Ym w' w6.heap.size (.slice B0 m1.length d0) (.slice (some ⟨gn, 0, none⟩) m2.length d1) (.slice B2 m3.length d2) m4 m5 ∧ Ym w' (w.heap.size + 1) (.slice none 0 0) (.slice none 0 0) (.slice none 0 0) 0 false ∧ Below w0.heap.size w0 w' ∧ Kept w w' (PE PD PM (.slice A2 l2.length c2))) ⟨⟨Kd.Fa E9.out.d KK (fun j hj e_ => E9.out.dm j hj (e_ ▸ hPg)), Kd.XN (Kd.Zv HQ.out) (fun j hj => ⟨hj.1, hj.2.2.1⟩), Kd.Fa E9.out.l KK (fun j hj e_ => (E9.out.pm gn hPg).2 (e_ ▸ hj)), fun j hj => ⟨Nat.lt_of_lt_of_le (E9.out.pd j hj).1 KK.1, (E9.out.pd j hj).2⟩, fun j hj => ⟨hj.2, ?_⟩, fun j hj hp => ?_⟩, BX9.out.kept KK nXg, BQ9.out.kept KK nQg, Xc (Xc (Xc LB9.out hgnb) hgnb) hgnb, LK9.out.Dk KK (fun j hj => hj ▸ hPg0.imp id (fun h_ => Nat.le_trans hn4.out h_))⟩ ?_
          ·rcases hj.1 with h_ | h_
           ·exact (E9.out.pm j h_).2
           ·intro e_
            have h1 := EL7.out j (.inr (.inr e_)); omega
          ·rcases hp.1 with h_ | h_
           ·exact E9.out.dm j hj h_
           ·have h1 := EL7.out j (.inl hj)
            omega
          clear KK HQ E9 BX9 BQ9 LB9 LK9 RV g9 hx0 hx1 hx2 hf0 hf1 hf2 hHeld; rintro w10 ⟨hE1, hBX, hBQ, hLB, hLK⟩; have E10 := zz hE1; have LB := zz hLB; have LK := zz hLK; obtain ⟨x0, x1, x2, x3, x4⟩ := hBX.cells; obtain ⟨y0, y1, y2, y3, y4⟩ := hBQ.cells; obtain ⟨f0, f1, f2, f3, f4⟩ := hBQ.XC; clear hE1 hBX hBQ hLB hLK
          go_wp2
          have nQ10 : ¬ PE PD' (fun j => (PM' j ∨ w7.heap.size ≤ j) ∧ j < w10.heap.size) (.slice B2 m3.length d2) (w.heap.size + 1) := by
           rintro (h_ | h_ | h_)
           ·exact nQ6 (.inl h_)
           ·rcases h_.1 with h1 | h1
            ·exact nQ6 (.inr (.inl h1))
            ·have := HX7.out; omega
           ·exact nQ6 (.inr (.inr h_))
          refine bodyPost_ret (v := .tuple #[.agg #[.slice B0 m1.length d0, .slice (some ⟨gn, 0, none⟩) m2.length d1, .slice B2 m3.length d2, .int .i64 m4, .bool m5], .bool true]) zb102 rfl ⟨B0, d0, some ⟨gn, 0, none⟩, d1, B2, d2, by rw [List.length_set], PD', (fun j => (PM' j ∨ w7.heap.size ≤ j) ∧ j < w10.heap.size), ?_, ?_, ?_, ?_⟩
          ·rw [List.length_set]
           exact E10.out.Jj nQ10
          ·rintro j (h_ | h_ | h_)
           ·exact (S6.out j (.inl h_)).imp id (fun h_ => Nat.le_trans hn4.out h_)
           ·rcases h_.1 with h1 | h1
            ·exact (S6.out j (.inr (.inl h1))).imp id (fun h_ => Nat.le_trans hn4.out h_)
            ·exact .inr (Nat.le_trans hn7.out h1)
           ·exact (S6.out j (.inr (.inr h_))).imp id (fun h_ => Nat.le_trans hn4.out h_)
          ·exact (Xc (Xc (Xc (Xc (Xc LB.out HZ1.out) HZ1.out) HZ1.out) HZ1.out) HZ1.out)
          ·exact (((((LK.out.setCell (p := ⟨w.heap.size + 1, 0, none⟩) (.inr (Nat.le_succ _)) _).setCell (p := ⟨w.heap.size + 1, 1, none⟩) (.inr (Nat.le_succ _)) _).setCell (p := ⟨w.heap.size + 1, 2, none⟩) (.inr (Nat.le_succ _)) _).setCell (p := ⟨w.heap.size + 1, 3, none⟩) (.inr (Nat.le_succ _)) _).setCell (p := ⟨w.heap.size + 1, 4, none⟩) (.inr (Nat.le_succ _)) _)
end Go.Proofs.Ytcefiblpnegepaa.Pr
