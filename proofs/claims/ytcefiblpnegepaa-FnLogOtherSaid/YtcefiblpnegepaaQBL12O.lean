import Derived.Test.YtcefiblpnegepaaQBByq
import Derived.Test.YtcefiblpnegepaaQBSh
import Derived.Test.YtcefiblpnegepaaQBL12A
import Derived.Test.YtcefiblpnegepaaQBPrMay
namespace Go.Proofs.Ytcefiblpnegepaa.Pr
open Go.RowKit Go.PW Go.PL Go.PM
attribute [local go_sem] Y3 Y4 YV YW Yk Yl Y5 Y6
set_option linter.unusedVariables false
set_option linter.unusedSimpArgs false
abbrev Xo7 : Array Bool := #[false, false, false, false, false, false, false, false, false, false, false, false, false, false, false, false]
abbrev Xo8 : Array Bool := #[false, true, false, false, false, false, false, false, false, false, false, false, false, false, false, false]
abbrev Xo9 : Array Bool := #[false, true, true, false, false, false, false, false, false, false, false, false, false, false, false, false]
abbrev XoA : Array Bool := #[false, true, true, true, false, false, false, false, false, false, false, false, false, false, false, false]
abbrev XoB : Array Bool := #[false, true, true, true, false, true, false, false, false, false, false, false, false, false, false, false]
abbrev XoC : Array Bool := #[false, true, true, true, false, true, false, false, false, true, false, false, false, false, false, false]
abbrev XoD : Array Bool := #[true, true, true, true, false, true, false, false, false, true, false, false, false, false, false, false]
abbrev XoE : Array Bool := #[true, true, true, true, true, true, false, false, false, true, false, false, false, false, false, false]
abbrev XoF : Array Bool := #[true, true, true, true, true, true, true, false, false, true, false, false, false, false, false, false]
abbrev XoG : Array Bool := #[true, true, true, true, true, true, true, true, false, true, false, false, false, false, false, false]
abbrev Xkb : Array Bool := #[true, true, true, true, true, true, true, true, true, true, false, false, false, false, false, false]
abbrev Xkc : Array Bool := #[true, true, true, true, true, true, true, true, true, true, true, false, false, false, false, false]
abbrev Xkd : Array Bool := #[true, true, true, true, true, true, true, true, true, true, true, true, false, false, false, false]
abbrev Xke : Array Bool := #[true, true, true, true, true, true, true, true, true, true, true, true, true, false, false, false]
abbrev Xkf : Array Bool := #[true, true, true, true, true, true, true, true, true, true, true, true, true, true, false, false]
abbrev Xkg : Array Bool := #[true, true, true, true, true, true, true, true, true, true, true, true, true, true, true, false]
abbrev Xkh : Array Bool := #[true, true, true, true, true, true, true, true, true, true, true, true, true, true, true, true]
def ZH.f (k : Nat) (l0 l1 : List S25) (l2 : List S41) (a3 : Int) (a4 : Bool) (tx pg tb : Int) : Option (List S25 × List S25 × List S41 × Int × Bool × Bool) := (Vb.f k l0 l1 l2 a3 a4 tx pg).bind fun b0 => if b0 = true then ((Ya.f tb 0 3).bind fun b1 => if b1 = true then (if 0 ≤ pg then (if pg < (l1.length : Int) then (if (((Xn l1 pg).f1 == 0) == (tb == 0)) = true then some (l0, l1, l2, a3, a4, false) else ((Zr.f k (Xn l1 pg).f0 (Xn l1 pg).f1 (Xn l1 pg).f2).bind fun b2 => if b2 = true then XM.f k l0 l1 l2 a3 a4 2 tx pg (-1) (Xn l1 pg).f1 tb 0 0 else some (l0, l1, l2, a3, a4, false))) else none) else none) else some (l0, l1, l2, a3, a4, false)) else some (l0, l1, l2, a3, a4, false)
def ZH.T3 : Bool × List (List Nat × List Nat) := (true, [([], []), ([], []), ([], []), ([], []), ([3], [3]), ([], []), ([4, 5], [4, 5]), ([6], [6]), ([7], [7]), ([], []), ([1, 2, 8, 9], [1, 2, 8, 9]), ([0, 10], [0, 10]), ([11], [11]), ([11], [11]), ([12, 11, 0, 1, 2, 3, 4, 5, 6, 7, 8, 9, 10, 11, 12, 13], [12]), ([13, 14, 0, 1, 2, 3, 4, 5, 6, 7, 8, 9, 10, 11, 12, 13, 14], [13])])
def ZH.B3 : List Nat := [0, 0, 0, 0, 8, 0, 56, 120, 248, 0, 1022, 2047, 4095, 4095, 16383, 32767]
theorem ZH.XoH : JG .any (opsOf Try.f133 3) = ZH.T3 := by kernel_rfl
theorem ZH.XgO : Jh ZH.T3.2 ZH.B3 = true := by kernel_rfl
set_option maxHeartbeats 8000000 in
set_option maxRecDepth 100000 in
theorem ZH.to (k : Nat) (PD PM : Nat → Prop) (v0 v1 v2 : Value) (l0 l1 : List S25) (l2 : List S41) (a3 : Int) (a4 : Bool) (tx pg tb : Int) (r1 r2 : List S25) (r3 : List S41) (r4 : Int) (r5 r6 : Bool) (w0 w : World) (hB : Below w0.heap.size w0 w) (hE : VG w0 w PD PM v0 v1 v2 l0 l1 l2)
    (h : ZH.f k l0 l1 l2 a3 a4 tx pg tb = some (r1, r2, r3, r4, r5, r6)) :
    Calls Try.prog 133 #[.agg #[v0, v1, v2, .int .i64 a3, .bool a4], .int .i64 tx, .int .i64 pg, .int .i64 tb] w (WG w0 w (PE PD PM v2) r1 r2 r3 r4 r5 r6) := by
  obtain ⟨A0, c0, e0⟩ := Kd.Xx hE.d; obtain ⟨A1, c1, e1⟩ := Kd.Xx hE.m; obtain ⟨A2, c2, e2⟩ := Kd.Xx hE.l; subst e0 e1 e2; have HE := zz hE; have HB := zz hB; have HZ := zz hB.size; have HZ1 := zz (Nat.le_trans hB.size (Nat.le_succ _)); have hu52 := Try.underlying52
  have nE : ¬ PE PD PM (.slice A2 l2.length c2) w.heap.size := fun h => Nat.lt_irrefl _ (hE.lt _ h)
  have nQ : ¬ PE PD PM (.slice A2 l2.length c2) (w.heap.size + 1) := fun h => by have := hE.lt _ h; omega
  clear hE hB
  unfold ZH.f at h
  replace h := Option.bind_eq_some_iff.mp h; obtain ⟨b0, hb0, h⟩ := h; have A0_ := zz hb0; have H := zz h; clear hb0 h
  go_enter Try.func133, Try.ntmps133
  go_wp2_with fail
  have E0 := zz (HE.out.below (Xd (Xd (Below.refl w.heap.size w) (.cells #[.slice A0 l0.length c0, .slice A1 l1.length c1, .slice A2 l2.length c2, .int .i64 a3, .bool a4] 52)) (.cells #[.slice none 0 0, .slice none 0 0, .slice none 0 0, .int .i64 0, .bool false] 52)))
  have BE0 : Aside0 (Ym ((w.alloc (.cells #[.slice A0 l0.length c0, .slice A1 l1.length c1, .slice A2 l2.length c2, .int .i64 a3, .bool a4] 52)).alloc (.cells #[.slice none 0 0, .slice none 0 0, .slice none 0 0, .int .i64 0, .bool false] 52)) w.heap.size (.slice A0 l0.length c0) (.slice A1 l1.length c1) (.slice A2 l2.length c2) a3 a4) := ⟨XY (Ym.new _ _ _ _ _ _) _⟩
  have BQ0 : Aside0 (Ym ((w.alloc (.cells #[.slice A0 l0.length c0, .slice A1 l1.length c1, .slice A2 l2.length c2, .int .i64 a3, .bool a4] 52)).alloc (.cells #[.slice none 0 0, .slice none 0 0, .slice none 0 0, .int .i64 0, .bool false] 52)) (w.heap.size + 1) (.slice none 0 0) (.slice none 0 0) (.slice none 0 0) 0 false) := ⟨zb37⟩
  have LB0 := zz (Xd (Xd HB.out (.cells #[.slice A0 l0.length c0, .slice A1 l1.length c1, .slice A2 l2.length c2, .int .i64 a3, .bool a4] 52)) (.cells #[.slice none 0 0, .slice none 0 0, .slice none 0 0, .int .i64 0, .bool false] 52)); have LK0 := zz (((Kept.refl w (PE PD PM (.slice A2 l2.length c2))).alloc (.cells #[.slice A0 l0.length c0, .slice A1 l1.length c1, .slice A2 l2.length c2, .int .i64 a3, .bool a4] 52)).alloc (.cells #[.slice none 0 0, .slice none 0 0, .slice none 0 0, .int .i64 0, .bool false] 52)); clear HB; refine (Vb.calls k A0 c0 l0 A1 c1 l1 A2 c2 l2 a3 a4 tx pg b0 _ (Kd.Xi E0.out.d).2.2 (Kd.Xi E0.out.d).2.1 (Kd.Xi E0.out.m).2.2 (Kd.Xi E0.out.m).2.1 (Kd.Xi E0.out.l).2.2 (Kd.Xi E0.out.l).2.1 A0_.out).mono ?_; rintro e w1 ⟨rfl, hb⟩; have E1 := zz (E0.out.below hb); have BE1 := zz (BE0.out.below hb); have BQ1 := zz (BQ0.out.below hb); have LB1 := zz (Xe LB0.out hb); have LK1 := zz (LK0.out.below hb); clear hb E0 BE0 BQ0 LB0 LK0; have h := H.out; clear H
  cases b0 with
  | false =>
    simp only [Bool.false_eq_true, if_false, Option.some.injEq, Prod.mk.injEq] at h; obtain ⟨rfl, rfl, rfl, rfl, rfl, rfl⟩ := h; obtain ⟨x0, x1, x2, x3, x4⟩ := BE1.out.cells; obtain ⟨y0, y1, y2, y3, y4⟩ := BQ1.out.cells; obtain ⟨f0, f1, f2, f3, f4⟩ := BQ1.out.XC
    go_wp2
    refine bodyPost_ret (v := .tuple #[.agg #[.slice A0 l0.length c0, .slice A1 l1.length c1, .slice A2 l2.length c2, .int .i64 a3, .bool a4], .bool false]) zb129 rfl ⟨A0, c0, A1, c1, A2, c2, rfl, PD, PM, E1.out.Jj nQ, fun j hj => .inl hj, ?_, ?_⟩
    · exact Xc (Xc (Xc (Xc (Xc LB1.out HZ1.out) HZ1.out) HZ1.out) HZ1.out) HZ1.out
    · exact ((((LK1.out.setCell (p := ⟨w.heap.size + 1, 0, none⟩) (.inr (Nat.le_succ _)) _).setCell (p := ⟨w.heap.size + 1, 1, none⟩) (.inr (Nat.le_succ _)) _).setCell (p := ⟨w.heap.size + 1, 2, none⟩) (.inr (Nat.le_succ _)) _).setCell (p := ⟨w.heap.size + 1, 3, none⟩) (.inr (Nat.le_succ _)) _).setCell (p := ⟨w.heap.size + 1, 4, none⟩) (.inr (Nat.le_succ _)) _
  | true =>
    simp only [if_true] at h; replace h := Option.bind_eq_some_iff.mp h; obtain ⟨b1, hb1, h⟩ := h; have A1_ := zz hb1; have H := zz h; clear hb1 h
    go_wp2_with fail
    refine (Ya.calls tb 0 3 b1 _ A1_.out).mono ?_; rintro e w2 ⟨rfl, nd, hw⟩
    have hb : Below w1.heap.size w1 w2 := by rw [hw]; exact XF (Below.refl _ _) nd
    clear hw nd; have E2 := zz (E1.out.below hb); have BE2 := zz (BE1.out.below hb); have BQ2 := zz (BQ1.out.below hb); have LB2 := zz (Xe LB1.out hb); have LK2 := zz (LK1.out.below hb); clear hb E1 BE1 BQ1 LB1 LK1; have h := H.out; clear H
    cases b1 with
    | false =>
      simp only [Bool.false_eq_true, if_false, Option.some.injEq, Prod.mk.injEq] at h; obtain ⟨rfl, rfl, rfl, rfl, rfl, rfl⟩ := h; obtain ⟨x0, x1, x2, x3, x4⟩ := BE2.out.cells; obtain ⟨y0, y1, y2, y3, y4⟩ := BQ2.out.cells; obtain ⟨f0, f1, f2, f3, f4⟩ := BQ2.out.XC
      go_wp2
      refine bodyPost_ret (v := .tuple #[.agg #[.slice A0 l0.length c0, .slice A1 l1.length c1, .slice A2 l2.length c2, .int .i64 a3, .bool a4], .bool false]) zb129 rfl ⟨A0, c0, A1, c1, A2, c2, rfl, PD, PM, E2.out.Jj nQ, fun j hj => .inl hj, ?_, ?_⟩
      · exact Xc (Xc (Xc (Xc (Xc LB2.out HZ1.out) HZ1.out) HZ1.out) HZ1.out) HZ1.out
      · exact ((((LK2.out.setCell (p := ⟨w.heap.size + 1, 0, none⟩) (.inr (Nat.le_succ _)) _).setCell (p := ⟨w.heap.size + 1, 1, none⟩) (.inr (Nat.le_succ _)) _).setCell (p := ⟨w.heap.size + 1, 2, none⟩) (.inr (Nat.le_succ _)) _).setCell (p := ⟨w.heap.size + 1, 3, none⟩) (.inr (Nat.le_succ _)) _).setCell (p := ⟨w.heap.size + 1, 4, none⟩) (.inr (Nat.le_succ _)) _
    | true =>
      simp only [if_true] at h
      by_cases q0 : 0 ≤ pg
      rotate_left
      · rw [if_neg q0] at h
        exact absurd h (by simp)
      rw [if_pos q0] at h
      by_cases q1 : pg < (l1.length : Int)
      rotate_left
      · rw [if_neg q1] at h
        exact absurd h (by simp)
      rw [if_pos q1] at h; obtain ⟨gm, cm_, em, hgmb, hgml, hgmt⟩ := Kd.Nv E2.out.m (by omega)
      injection em with em1 em2 em3
      subst em1 em3; clear em2 hgmt; have Q0 := zz q0; have Q1 := zz q1; obtain ⟨ce, hcl, hM, hcc, hfr⟩ := Kd.FO E2.out.m z25 pg q0 q1; obtain ⟨v7, rfl, hR7⟩ := JP hM; obtain ⟨A7, c7, e7⟩ := Kd.Xx hR7
      change v7 = .slice A7 (Xn l1 pg).f2.length c7 at e7
      subst e7; have g0 : w2.cell? ⟨gm, (pg : Int).toNat * 3, none⟩ = some (.int .i64 (Xn l1 pg).f0) := hcc 0 _ rfl; have g1 : w2.cell? ⟨gm, (pg : Int).toNat * 3 + 1, none⟩ = some (.int .i64 (Xn l1 pg).f1) := hcc 1 _ rfl; have g2 : w2.cell? ⟨gm, (pg : Int).toNat * 3 + 2, none⟩ = some (.slice A7 (Xn l1 pg).f2.length c7) := hcc 2 _ rfl; have R7 := zz (show Kd.R (Kd.int .i64) 3 w2 w0.heap.size _ (.slice A7 (Xn l1 pg).f2.length c7) (Xn l1 pg).f2 from hR7); clear hcl hM hcc hfr hR7; have p0 := eq_true q0; have p1 := eq_true q1
      cases q2b : (((Xn l1 pg).f1 == 0) == (tb == 0)) with
      | true =>
        rw [q2b] at h; simp only [if_true, Option.some.injEq, Prod.mk.injEq] at h; obtain ⟨rfl, rfl, rfl, rfl, rfl, rfl⟩ := h; clear q0 q1; obtain ⟨x0, x1, x2, x3, x4⟩ := BE2.out.cells; obtain ⟨y0, y1, y2, y3, y4⟩ := BQ2.out.cells; obtain ⟨f0, f1, f2, f3, f4⟩ := BQ2.out.XC
        go_wp2
        refine bodyPost_ret (v := .tuple #[.agg #[.slice A0 l0.length c0, .slice (some ⟨gm, 0, none⟩) l1.length c1, .slice A2 l2.length c2, .int .i64 a3, .bool a4], .bool false]) zb129 rfl ⟨A0, c0, _, c1, A2, c2, rfl, PD, PM, E2.out.Jj nQ, fun j hj => .inl hj, ?_, ?_⟩
        · exact Xc (Xc (Xc (Xc (Xc LB2.out HZ1.out) HZ1.out) HZ1.out) HZ1.out) HZ1.out
        · exact ((((LK2.out.setCell (p := ⟨w.heap.size + 1, 0, none⟩) (.inr (Nat.le_succ _)) _).setCell (p := ⟨w.heap.size + 1, 1, none⟩) (.inr (Nat.le_succ _)) _).setCell (p := ⟨w.heap.size + 1, 2, none⟩) (.inr (Nat.le_succ _)) _).setCell (p := ⟨w.heap.size + 1, 3, none⟩) (.inr (Nat.le_succ _)) _).setCell (p := ⟨w.heap.size + 1, 4, none⟩) (.inr (Nat.le_succ _)) _
      | false =>
        rw [q2b] at h; simp only [Bool.false_eq_true, if_false] at h; clear q0 q1; replace h := Option.bind_eq_some_iff.mp h; obtain ⟨b2, hb2, h⟩ := h; have A2_ := zz hb2; have H := zz h; clear hb2 h; obtain ⟨x0, x1, x2, x3, x4⟩ := BE2.out.cells; obtain ⟨y0, y1, y2, y3, y4⟩ := BQ2.out.cells; obtain ⟨f0, f1, f2, f3, f4⟩ := BQ2.out.XC
        go_wp2_with fail
        refine (Zr.calls k (Xn l1 pg).f0 (Xn l1 pg).f1 A7 c7 (Xn l1 pg).f2 b2 _ (Kd.Xi R7.out).2.2 (Kd.Xi R7.out).2.1 A2_.out).mono ?_; rintro e w3 ⟨rfl, hb⟩; clear g0 g1 g2; clear x0 x1 x2 x3 x4 y0 y1 y2 y3 y4 f0 f1 f2 f3 f4; have R8 := zz (Kd.Xz R7.out hb); clear R7; have E3 := zz (E2.out.below hb); have BE3 := zz (BE2.out.below hb); have BQ3 := zz (BQ2.out.below hb); have LB3 := zz (Xe LB2.out hb); have LK3 := zz (LK2.out.below hb); clear hb E2 BE2 BQ2 LB2 LK2; have h := H.out; clear H
        cases b2 with
        | false =>
          simp only [Bool.false_eq_true, if_false, Option.some.injEq, Prod.mk.injEq] at h; obtain ⟨rfl, rfl, rfl, rfl, rfl, rfl⟩ := h; obtain ⟨x0, x1, x2, x3, x4⟩ := BE3.out.cells; obtain ⟨y0, y1, y2, y3, y4⟩ := BQ3.out.cells; obtain ⟨f0, f1, f2, f3, f4⟩ := BQ3.out.XC
          go_wp2
          refine bodyPost_ret (v := .tuple #[.agg #[.slice A0 l0.length c0, .slice (some ⟨gm, 0, none⟩) l1.length c1, .slice A2 l2.length c2, .int .i64 a3, .bool a4], .bool false]) zb129 rfl ⟨A0, c0, _, c1, A2, c2, rfl, PD, PM, E3.out.Jj nQ, fun j hj => .inl hj, ?_, ?_⟩
          · exact Xc (Xc (Xc (Xc (Xc LB3.out HZ1.out) HZ1.out) HZ1.out) HZ1.out) HZ1.out
          · exact ((((LK3.out.setCell (p := ⟨w.heap.size + 1, 0, none⟩) (.inr (Nat.le_succ _)) _).setCell (p := ⟨w.heap.size + 1, 1, none⟩) (.inr (Nat.le_succ _)) _).setCell (p := ⟨w.heap.size + 1, 2, none⟩) (.inr (Nat.le_succ _)) _).setCell (p := ⟨w.heap.size + 1, 3, none⟩) (.inr (Nat.le_succ _)) _).setCell (p := ⟨w.heap.size + 1, 4, none⟩) (.inr (Nat.le_succ _)) _
        | true =>
          simp only [if_true] at h; have H := zz h; clear h; obtain ⟨x0, x1, x2, x3, x4⟩ := BE3.out.cells; obtain ⟨y0, y1, y2, y3, y4⟩ := BQ3.out.cells; obtain ⟨f0, f1, f2, f3, f4⟩ := BQ3.out.XC
          go_wp2_with fail
          clear x0 x1 x2 x3 x4 y0 y1 y2 y3 y4 f0 f1 f2 f3 f4; have E4 := zz (E3.out.below (XX (Below.refl _ _)))
          have BE4 : Aside0 (Ym w3.drew w.heap.size _ _ _ _ _) := ⟨Yd BE3.out⟩
          have BQ4 : Aside0 (Ym w3.drew (w.heap.size + 1) _ _ _ _ _) := ⟨Yd BQ3.out⟩
          have LB4 := zz (Yt LB3.out); have LK4 := zz (Kept.drew LK3.out); obtain ⟨ce, hcl, hM, hcc, hfr⟩ := Kd.FO E4.out.m z25 pg Q0.out Q1.out; obtain ⟨v8, rfl, hR8⟩ := JP hM; have g1 : w3.drew.cell? ⟨gm, (pg : Int).toNat * 3 + 1, none⟩ = some (.int .i64 (Xn l1 pg).f1) := hcc 1 _ rfl; clear hcl hM hcc hfr hR8 E3 BE3 BQ3 LB3 LK3 R8; refine ZR (n := 16) (S := fun w' => w'.cell? ⟨w.heap.size, 0, none⟩ = some (.slice A0 l0.length c0) ∧ w'.cell? ⟨w.heap.size, 1, none⟩ = some (.slice (some ⟨gm, 0, none⟩) l1.length c1) ∧ w'.cell? ⟨w.heap.size, 2, none⟩ = some (.slice A2 l2.length c2) ∧ w'.cell? ⟨w.heap.size, 3, none⟩ = some (.int .i64 a3) ∧ w'.cell? ⟨w.heap.size, 4, none⟩ = some (.bool a4) ∧ w'.cell? ⟨gm, (pg : Int).toNat * 3 + 1, none⟩ = some (.int .i64 (Xn l1 pg).f1)) (ds := [11, 14]) Xo7 zb13 rfl rfl ⟨BE4.out.cells.1, BE4.out.cells.2.1, BE4.out.cells.2.2.1, BE4.out.cells.2.2.2.1, BE4.out.cells.2.2.2.2, g1⟩ (fun hHeld => ?_); refine ZV ZH.XoH ZH.XgO (fun HT_ HW_ => ?_); generalize w3.drew = w4 at E4 BE4 BQ4 LB4 LK4 g1 hHeld ⊢; refine pu 1 43 Xo8 HT_ ?_; refine pu 2 44 Xo9 HT_ ?_; refine pu 3 45 XoA HT_ ?_; refine pu 5 47 XoB HT_ ?_; refine pu 9 51 XoC HT_ ?_; refine tk 0 42 XoD HT_ HW_ hHeld ?_; refine tk 4 46 XoE HT_ HW_ hHeld ?_; refine pu 6 48 XoF HT_ ?_; refine pu 7 49 XoG HT_ ?_; refine tk 8 50 Xkb HT_ HW_ hHeld ?_; refine pu 10 52 Xkc HT_ ?_; refine Uz (i := 11) (N := some 53) Xkd rfl rfl (Zf HT_.out zb13) (by decide) (fun K hK => ?_); refine Ji Try.func153 zb13 rfl #[.agg #[.slice A0 l0.length c0, .slice (some ⟨gm, 0, none⟩) l1.length c1, .slice A2 l2.length c2, .int .i64 a3, .bool a4], .agg #[.int .i64 2, .int .i64 tx, .int .i64 pg, .int .i64 (-1), .int .i64 (Xn l1 pg).f1, .int .i64 tb, .int .i64 0, .int .i64 0]] (by rfl) rfl rfl zb0 ?_
          with_reducible refine (XM.to k PD PM _ _ _ l0 l1 l2 a3 a4 2 tx pg (-1) (Xn l1 pg).f1 tb 0 0 r1 r2 r3 r4 r5 r6 w0 _ LB4.out E4.out H.out).mono ?_
          rintro e w6 ⟨B0, d0, B1, d1, B2, d2, rfl, PD', PM', hE6, hS6, hb6, hk6⟩; refine ⟨_, rfl, ?_⟩; have E6 := zz hE6; have S6 := zz hS6; have LB6 := zz hb6; have BQ6 := zz (BQ4.out.kept hk6 nQ); have LK6 := zz (LK4.out.Dk hk6 (fun j hj => .inl hj)); have hn4 := zz LK4.out.1; have hq4 := zz BQ4.out.lt; clear hE6 hS6 hb6 hk6 E4 BE4 BQ4 LB4 LK4 g1; obtain ⟨y0, y1, y2, y3, y4⟩ := BQ6.out.cells; obtain ⟨f0, f1, f2, f3, f4⟩ := BQ6.out.XC; refine hK.out _ _ ?_; clear hK K; refine YP (a' := ?_) ?_ ?_; rotate_left
          · show Act.put _ (some 53) _ = _
            simp only [Act.put, List.setIfInBounds_toArray, List.set_cons_zero, List.set_cons_succ, XG, XW]
            rfl
          refine pu 12 54 Xke HT_ ?_; refine pu 13 55 Xkf HT_ ?_; refine Uz (i := 14) (N := none) Xkg rfl rfl (Zf HT_.out zb13) (by decide) (fun K hK => ?_); refine M9 (w1 := ?_) (by rfl) rfl ?_ ?_; rotate_left
          · go_simp
            rfl
          refine hK.out _ _ ?_; clear hK K; refine pu 15 9 Xkh HT_ ?_; refine J4 (J9 HT_.out zb13) ?_
          have nQ6 : ¬ PE PD' PM' (.slice B2 r3.length d2) (w.heap.size + 1) := fun h_ => by
            rcases S6.out _ h_ with h1 | h1
            · exact nQ h1
            · have := hq4.out; omega
          go_wp2
          refine bodyPost_ret (v := .tuple #[.agg #[.slice B0 r1.length d0, .slice B1 r2.length d1, .slice B2 r3.length d2, .int .i64 r4, .bool r5], .bool r6]) zb129 rfl ⟨B0, d0, B1, d1, B2, d2, rfl, PD', PM', E6.out.Jj nQ6, fun j hj => (S6.out j hj).imp id (fun h_ => Nat.le_trans hn4.out h_), ?_, ?_⟩
          · exact Xc (Xc (Xc (Xc (Xc LB6.out HZ1.out) HZ1.out) HZ1.out) HZ1.out) HZ1.out
          · exact ((((LK6.out.setCell (p := ⟨w.heap.size + 1, 0, none⟩) (.inr (Nat.le_succ _)) _).setCell (p := ⟨w.heap.size + 1, 1, none⟩) (.inr (Nat.le_succ _)) _).setCell (p := ⟨w.heap.size + 1, 2, none⟩) (.inr (Nat.le_succ _)) _).setCell (p := ⟨w.heap.size + 1, 3, none⟩) (.inr (Nat.le_succ _)) _).setCell (p := ⟨w.heap.size + 1, 4, none⟩) (.inr (Nat.le_succ _)) _
end Go.Proofs.Ytcefiblpnegepaa.Pr
