import Derived.Test.YtcefiblpnegepaaQBByq
import Derived.Test.YtcefiblpnegepaaQBSh
import Derived.Test.YtcefiblpnegepaaQBL11W
import Derived.Test.YtcefiblpnegepaaQBL13U
namespace Go.Proofs.Ytcefiblpnegepaa.Pr
open Go.RowKit Go.PW Go.PL Go.PM
attribute [local go_sem] Y3 Y4 YV YW Yk Yl Y5 Y6
set_option linter.unusedVariables false
set_option linter.unusedSimpArgs false
abbrev XoS : Array Bool := #[false, false, false, false, false, false, false, false, false, false]
abbrev XoT : Array Bool := #[false, true, false, false, false, false, false, false, false, false]
abbrev XoU : Array Bool := #[false, true, false, true, false, false, false, false, false, false]
abbrev XoV : Array Bool := #[false, true, false, true, true, false, false, false, false, false]
abbrev XoW : Array Bool := #[true, true, false, true, true, false, false, false, false, false]
abbrev XoX : Array Bool := #[true, true, true, true, true, false, false, false, false, false]
abbrev XoY : Array Bool := #[true, true, true, true, true, true, false, false, false, false]
abbrev XoZ : Array Bool := #[true, true, true, true, true, true, true, false, false, false]
abbrev Xpa : Array Bool := #[true, true, true, true, true, true, true, true, false, false]
abbrev Xpb : Array Bool := #[true, true, true, true, true, true, true, true, true, false]
abbrev Xkt : Array Bool := #[true, true, true, true, true, true, true, true, true, true]
theorem Xby {Z : Act → World → Prop} {a : Act} {w : World} (F : World → Prop) (hF : F w) (h : ∀ w', F w' → Z a w') : Z a w := h w hF
def Yu.l0 : Nat → List S25 → List S25 → List S41 → Int → Bool → Int → Option (List S25 × List S25 × List S41 × Int × Bool)
 | 0, _, _, _, _, _, _ => none
 | k + 1, l0, l1, l2, a3, a4, at_ => if at_ > 0 then (if 0 ≤ wrap64 (at_ - 1) then (if wrap64 (at_ - 1) < (l2.length : Int) then (if (Xa l2 (wrap64 (at_ - 1))).f0 = 3 then ((Yg.f l0 l1 l2 a3 a4 (Xa l2 (wrap64 (at_ - 1))).f2).bind fun x => (if wrap64 (at_ - 1) < (x.2.2.1.length : Int) then Yu.l0 k x.1 x.2.1 x.2.2.1 x.2.2.2.1 x.2.2.2.2 (Xa x.2.2.1 (wrap64 (at_ - 1))).f6 else none)) else Yu.l0 k l0 l1 l2 a3 a4 (Xa l2 (wrap64 (at_ - 1))).f6) else none) else none) else some (l0, l1, l2, a3, a4)
def Yu.f (k : Nat) (l0 l1 : List S25) (l2 : List S41) (a3 : Int) (a4 : Bool) (tx : Int) : Option (List S25 × List S25 × List S41 × Int × Bool × Bool) := if a4 = true then some (l0, l1, l2, a3, a4, false) else (Ya.f tx 1 3).bind fun b => if b = true then (Xu.f k l2 tx).bind fun n => if n = 0 then some (l0, l1, l2, a3, a4, false) else (Yu.l0 k l0 l1 l2 a3 a4 n).bind fun y => (XM.f k y.1 y.2.1 y.2.2.1 y.2.2.2.1 y.2.2.2.2 4 tx 0 0 0 0 0 0).bind fun x => some (x.1, x.2.1, x.2.2.1, (x.2.2.1.length : Int), x.2.2.2.2.1, true) else some (l0, l1, l2, a3, a4, false)
def Yu.T7 : Bool × List (List Nat × List Nat) := (true, [([], []), ([], []), ([1], [1]), ([], []), ([3], [3]), ([2, 4], [2, 4]), ([5], [5]), ([6], [6]), ([0, 7], [0, 7]), ([8, 8, 0, 1, 2, 3, 4, 5, 6, 7, 8], [8])])
def Yu.B7 : List Nat := [0, 0, 2, 0, 8, 30, 62, 126, 255, 511]
theorem Yu.XgG : JG .any (opsOf Try.f135 7) = Yu.T7 := by kernel_rfl
theorem Yu.Xaw : Jh Yu.T7.2 Yu.B7 = true := by kernel_rfl
set_option maxHeartbeats 8000000 in
set_option maxRecDepth 100000 in
theorem Yu.to (k : Nat) (PD PM : Nat → Prop) (v0 v1 v2 : Value) (l0 l1 : List S25) (l2 : List S41) (a3 : Int) (a4 : Bool) (tx : Int) (r1 r2 : List S25) (r3 : List S41) (r4 : Int) (r5 r6 : Bool) (w0 w : World) (hB : Below w0.heap.size w0 w) (hE : VG w0 w PD PM v0 v1 v2 l0 l1 l2)
 (h : Yu.f k l0 l1 l2 a3 a4 tx = some (r1, r2, r3, r4, r5, r6)) :
 Calls Try.prog 135 #[.agg #[v0, v1, v2, .int .i64 a3, .bool a4], .int .i64 tx] w (WG w0 w (PE PD PM v2) r1 r2 r3 r4 r5 r6) := by
 obtain ⟨A0, c0, e0⟩ := Kd.Xx hE.d; obtain ⟨A1, c1, e1⟩ := Kd.Xx hE.m; obtain ⟨A2, c2, e2⟩ := Kd.Xx hE.l; subst e0 e1 e2; have HE := zz hE; have HB := zz hB; have HZ := zz hB.size; have HZ1 := zz (Nat.le_trans hB.size (Nat.le_succ _)); have hu52 := Try.underlying52
 have nE : ¬ PE PD PM (.slice A2 l2.length c2) w.heap.size := fun h => Nat.lt_irrefl _ (hE.lt _ h)
 have nQ : ¬ PE PD PM (.slice A2 l2.length c2) (w.heap.size + 1) := fun h => by have := hE.lt _ h; omega
 clear hE hB
 unfold Yu.f at h
 go_enter Try.func135, Try.ntmps135
 cases a4 with
 | true =>
  simp only [if_true, Option.some.injEq, Prod.mk.injEq] at h; obtain ⟨rfl, rfl, rfl, rfl, rfl, rfl⟩ := h
  go_wp2_with fail
  refine bodyPost_ret (v := .tuple #[.agg #[.slice A0 l0.length c0, .slice A1 l1.length c1, .slice A2 l2.length c2, .int .i64 a3, .bool true], .bool false]) (by simp [results, Try.results135, go_sem, hu52]) rfl ⟨A0, c0, A1, c1, A2, c2, rfl, PD, PM, HE.out.below (Xd (Xd (Below.refl w.heap.size w) _) _), fun j hj => .inl hj, ?_, ?_⟩
  ·exact Xd (Xd HB.out _) _
  ·exact ((Kept.refl w _).alloc _).alloc _
 | false =>
  simp only [Bool.false_eq_true, if_false] at h; replace h := Option.bind_eq_some_iff.mp h; obtain ⟨b0, hb0, h⟩ := h; have A0_ := zz hb0; have H := zz h; clear hb0 h
  go_wp2_with fail
  have E0 := zz (HE.out.below (Xd (Xd (Below.refl w.heap.size w) (.cells #[.slice A0 l0.length c0, .slice A1 l1.length c1, .slice A2 l2.length c2, .int .i64 a3, .bool false] 52)) (.cells #[.slice none 0 0, .slice none 0 0, .slice none 0 0, .int .i64 0, .bool false] 52)))
  have BE0 : Aside0 (Ym ((w.alloc (.cells #[.slice A0 l0.length c0, .slice A1 l1.length c1, .slice A2 l2.length c2, .int .i64 a3, .bool false] 52)).alloc (.cells #[.slice none 0 0, .slice none 0 0, .slice none 0 0, .int .i64 0, .bool false] 52)) w.heap.size (.slice A0 l0.length c0) (.slice A1 l1.length c1) (.slice A2 l2.length c2) a3 false) := ⟨XY (Ym.new _ _ _ _ _ _) _⟩
  have BQ0 : Aside0 (Ym ((w.alloc (.cells #[.slice A0 l0.length c0, .slice A1 l1.length c1, .slice A2 l2.length c2, .int .i64 a3, .bool false] 52)).alloc (.cells #[.slice none 0 0, .slice none 0 0, .slice none 0 0, .int .i64 0, .bool false] 52)) (w.heap.size + 1) (.slice none 0 0) (.slice none 0 0) (.slice none 0 0) 0 false) := ⟨zb111⟩
  have LB0 := zz (Xd (Xd HB.out (.cells #[.slice A0 l0.length c0, .slice A1 l1.length c1, .slice A2 l2.length c2, .int .i64 a3, .bool false] 52)) (.cells #[.slice none 0 0, .slice none 0 0, .slice none 0 0, .int .i64 0, .bool false] 52)); have LK0 := zz (((Kept.refl w (PE PD PM (.slice A2 l2.length c2))).alloc (.cells #[.slice A0 l0.length c0, .slice A1 l1.length c1, .slice A2 l2.length c2, .int .i64 a3, .bool false] 52)).alloc (.cells #[.slice none 0 0, .slice none 0 0, .slice none 0 0, .int .i64 0, .bool false] 52)); clear HB; refine (Ya.calls tx 1 3 b0 _ A0_.out).mono ?_; rintro e w1 ⟨rfl, nd, hw⟩; have hb := Vd hw; clear hw nd; have E1 := zz (E0.out.below hb); have BE1 := zz (BE0.out.below hb); have BQ1 := zz (BQ0.out.below hb); have LB1 := zz (Xe LB0.out hb); have LK1 := zz (LK0.out.below hb); clear hb E0 BE0 BQ0 LB0 LK0; have h := H.out; clear H
  cases b0 with
  | false =>
   simp only [Bool.false_eq_true, if_false, Option.some.injEq, Prod.mk.injEq] at h; obtain ⟨rfl, rfl, rfl, rfl, rfl, rfl⟩ := h; obtain ⟨x0, x1, x2, x3, x4⟩ := BE1.out.cells; obtain ⟨y0, y1, y2, y3, y4⟩ := BQ1.out.cells; obtain ⟨f0, f1, f2, f3, f4⟩ := BQ1.out.XC
   go_wp2
   refine bodyPost_ret (v := .tuple #[.agg #[.slice A0 l0.length c0, .slice A1 l1.length c1, .slice A2 l2.length c2, .int .i64 a3, .bool false], .bool false]) (by simp [results, Try.results135, go_sem, *]) rfl ⟨A0, c0, A1, c1, A2, c2, rfl, PD, PM, E1.out.Jj nQ, fun j hj => .inl hj, ?_, ?_⟩
   ·exact Xc (Xc (Xc (Xc (Xc LB1.out HZ1.out) HZ1.out) HZ1.out) HZ1.out) HZ1.out
   ·exact ((((LK1.out.setCell (p := ⟨w.heap.size + 1, 0, none⟩) (.inr (Nat.le_succ _)) _).setCell (p := ⟨w.heap.size + 1, 1, none⟩) (.inr (Nat.le_succ _)) _).setCell (p := ⟨w.heap.size + 1, 2, none⟩) (.inr (Nat.le_succ _)) _).setCell (p := ⟨w.heap.size + 1, 3, none⟩) (.inr (Nat.le_succ _)) _).setCell (p := ⟨w.heap.size + 1, 4, none⟩) (.inr (Nat.le_succ _)) _
  | true =>
   simp only [if_true] at h; replace h := Option.bind_eq_some_iff.mp h; obtain ⟨n0, hn0, h⟩ := h; have A1_ := zz hn0; have H := zz h; clear hn0 h; obtain ⟨x0, x1, x2, x3, x4⟩ := BE1.out.cells; obtain ⟨y0, y1, y2, y3, y4⟩ := BQ1.out.cells; obtain ⟨f0, f1, f2, f3, f4⟩ := BQ1.out.XC
   go_wp2_with fail
   clear x0 x1 x2 x3 x4 y0 y1 y2 y3 y4 f0 f1 f2 f3 f4; refine (Xu.calls k A2 c2 l2 tx n0 _ (Kd.Xi E1.out.l).2.2 (Kd.Xi E1.out.l).2.1 A1_.out).mono ?_; rintro e w2 ⟨rfl, nd, hw⟩; have hb := Vd hw; clear hw nd; have E2 := zz (E1.out.below hb); have BE2 := zz (BE1.out.below hb); have BQ2 := zz (BQ1.out.below hb); have LB2 := zz (Xe LB1.out hb); have LK2 := zz (LK1.out.below hb); clear hb E1 BE1 BQ1 LB1 LK1; have h := H.out; clear H
   by_cases q : n0 = 0
   ·rw [if_pos q] at h
    simp only [Option.some.injEq, Prod.mk.injEq] at h; obtain ⟨rfl, rfl, rfl, rfl, rfl, rfl⟩ := h; have qb : (n0 == 0) = true := beq_iff_eq.mpr q; clear q; obtain ⟨x0, x1, x2, x3, x4⟩ := BE2.out.cells; obtain ⟨y0, y1, y2, y3, y4⟩ := BQ2.out.cells; obtain ⟨f0, f1, f2, f3, f4⟩ := BQ2.out.XC
    go_wp2
    refine bodyPost_ret (v := .tuple #[.agg #[.slice A0 l0.length c0, .slice A1 l1.length c1, .slice A2 l2.length c2, .int .i64 a3, .bool false], .bool false]) (by simp [results, Try.results135, go_sem, *]) rfl ⟨A0, c0, A1, c1, A2, c2, rfl, PD, PM, E2.out.Jj nQ, fun j hj => .inl hj, ?_, ?_⟩
    ·exact Xc (Xc (Xc (Xc (Xc LB2.out HZ1.out) HZ1.out) HZ1.out) HZ1.out) HZ1.out
    ·exact ((((LK2.out.setCell (p := ⟨w.heap.size + 1, 0, none⟩) (.inr (Nat.le_succ _)) _).setCell (p := ⟨w.heap.size + 1, 1, none⟩) (.inr (Nat.le_succ _)) _).setCell (p := ⟨w.heap.size + 1, 2, none⟩) (.inr (Nat.le_succ _)) _).setCell (p := ⟨w.heap.size + 1, 3, none⟩) (.inr (Nat.le_succ _)) _).setCell (p := ⟨w.heap.size + 1, 4, none⟩) (.inr (Nat.le_succ _)) _
   ·rw [if_neg q] at h
    have qb : (n0 == 0) = false := beq_eq_false_iff_ne.mpr q; replace h := Option.bind_eq_some_iff.mp h; obtain ⟨⟨z1, z2, z3, z4, z5⟩, hl0, h⟩ := h; replace h := Option.bind_eq_some_iff.mp h; obtain ⟨⟨m1, m2, m3, m4, m5, m6⟩, hx, h⟩ := h; simp only [Option.some.injEq, Prod.mk.injEq] at h; obtain ⟨rfl, rfl, rfl, rfl, rfl, rfl⟩ := h; have H' := zz hl0; have HX := zz hx; clear q hl0 hx
    obtain ⟨P, hP⟩ : ∃ P_, PE PD PM (.slice A2 l2.length c2) = P_ := ⟨_, rfl⟩
    have SP := zz (show ∀ j, PE PD PM (.slice A2 l2.length c2) j → P j ∨ w.heap.size ≤ j from fun j hj => .inl (hP ▸ hj)); rw [hP] at LK2 ⊢; have HP := zz hP; clear hP HE; obtain ⟨x0, x1, x2, x3, x4⟩ := BE2.out.cells; obtain ⟨y0, y1, y2, y3, y4⟩ := BQ2.out.cells; obtain ⟨f0, f1, f2, f3, f4⟩ := BQ2.out.XC
    go_wp2_with fail
    clear x0 x1 x2 x3 x4 y0 y1 y2 y3 y4 f0 f1 f2 f3 f4; refine (Xu.calls k A2 c2 l2 tx n0 _ (Kd.Xi E2.out.l).2.2 (Kd.Xi E2.out.l).2.1 A1_.out).mono ?_; rintro e w3 ⟨rfl, nd, hw⟩; have hb := Vd hw; clear hw nd; have E3 := zz (E2.out.below hb); have BE3 := zz (BE2.out.below hb); have BQ3 := zz (BQ2.out.below hb); have LB3 := zz (Xe LB2.out hb); have LK3 := zz (LK2.out.below hb); clear hb E2 BE2 BQ2 LB2 LK2; obtain ⟨x0, x1, x2, x3, x4⟩ := BE3.out.cells; obtain ⟨y0, y1, y2, y3, y4⟩ := BQ3.out.cells; obtain ⟨f0, f1, f2, f3, f4⟩ := BQ3.out.XC
    go_wp2
    clear x0 x1 x2 x3 x4 y0 y1 y2 y3 y4 f0 f1 f2 f3 f4
    go_loopg [6] k (fun kq v6 w' => ∃ (x6 : Int) (A0 : Option Addr) (c0 : Nat) (A1 : Option Addr) (c1 : Nat) (A2 : Option Addr) (c2 : Nat) (PD PM : Nat → Prop) (l0 l1 : List S25) (l2 : List S41) (a3 : Int) (a4 : Bool), v6 = .int .i64 x6 ∧ Aside0 (Yu.l0 kq l0 l1 l2 a3 a4 x6 = some (z1, z2, z3, z4, z5)) ∧ Aside0 (kq ≤ k) ∧ Aside0 (VG w0 w' PD PM (.slice A0 l0.length c0) (.slice A1 l1.length c1) (.slice A2 l2.length c2) l0 l1 l2) ∧ Aside0 (Ym w' w.heap.size (.slice A0 l0.length c0) (.slice A1 l1.length c1) (.slice A2 l2.length c2) a3 a4) ∧ Aside0 (Ym w' (w.heap.size + 1) (.slice none 0 0) (.slice none 0 0) (.slice none 0 0) 0 false) ∧ Aside0 (Below w0.heap.size w0 w') ∧ Aside0 (Kept w w' P) ∧ Aside0 (∀ j, PE PD PM (.slice A2 l2.length c2) j → P j ∨ w.heap.size ≤ j) ∧ Aside0 (¬ PE PD PM (.slice A2 l2.length c2) w.heap.size) ∧ Aside0 (¬ PE PD PM (.slice A2 l2.length c2) (w.heap.size + 1)))
    case atStart => exact ⟨n0, A0, c0, A1, c1, A2, c2, PD, PM, l0, l1, l2, a3, false, rfl, H', ⟨Nat.le_refl _⟩, E3, BE3, BQ3, LB3, LK3, SP, ⟨nE⟩, ⟨nQ⟩⟩
    case round =>
     clear H' E3 BE3 BQ3 LB3 LK3 SP nE nQ A0_ A1_; obtain ⟨x6, A0, c0, A1, c1, A2, c2, PD, PM, l0, l1, l2, a3, a4, rfl, HA, HK1, E0, BE0, BQ0, LB0, LK0, SP, nE, nQ⟩ := hrel
     cases gk with
     | zero => exact absurd HA.out (by simp [Yu.l0])
     | succ k1 =>
      have h := HA.out; clear HA; simp only [Yu.l0] at h
      by_cases q : x6 > 0
      ·rw [if_pos q] at h
       have qb : decide (0 < x6) = true := decide_eq_true q; clear q
       by_cases q0 : 0 ≤ wrap64 (x6 - 1)
       rotate_left
       ·rw [if_neg q0] at h
        exact absurd h (by simp)
       rw [if_pos q0] at h
       by_cases q1 : wrap64 (x6 - 1) < (l2.length : Int)
       rotate_left
       ·rw [if_neg q1] at h
        exact absurd h (by simp)
       rw [if_pos q1] at h
       obtain ⟨ji, hji⟩ : ∃ j_ : Int, wrap64 (x6 - 1) = j_ := ⟨_, rfl⟩
       rw [hji] at q0 q1 h; have hjw : IntKind.i64.wrap (x6 - 1) = ji := (XG _).trans hji; have p0 := eq_true q0; have p1 := eq_true q1; have Q0 := zz q0; have Q1 := zz q1; obtain ⟨A9, e9, u0, u1, u2, u3, u4, u5, u6, u7⟩ := YN (Kd.Xi E0.out.l).2.2 ji Q0.out Q1.out; subst e9; clear q0 q1 hji
       by_cases q3 : (Xa l2 ji).f0 = 3
       ·rw [if_pos q3] at h
        have q3b : ((Xa l2 ji).f0 == 3) = true := beq_iff_eq.mpr q3; clear q3; replace h := Option.bind_eq_some_iff.mp h; obtain ⟨⟨o1, o2, o3, o4, o5⟩, hy, h⟩ := h; have A3_ := zz hy
        by_cases q4 : ji < (o3.length : Int)
        rotate_left
        ·simp only [if_neg q4] at h
         exact absurd h (by simp)
        simp only [if_pos q4] at h; have H := zz h; have Q4 := zz q4; have p4 := eq_true q4; clear hy h q4; obtain ⟨g0, g1, g2, g3, g4⟩ := BE0.out.cells; obtain ⟨y0, y1, y2, y3, y4⟩ := BQ0.out.cells; obtain ⟨f0, f1, f2, f3, f4⟩ := BQ0.out.XC
        go_wp2_with fail
        clear g0 g1 g2 g3 g4 y0 y1 y2 y3 y4 f0 f1 f2 f3 f4 u0 u1 u2 u3 u4 u5 u6 u7; have E1 := zz (E0.out.below (XX (Below.refl _ _)))
        have BE1 : Aside0 (Ym wr.drew w.heap.size _ _ _ _ _) := ⟨Yd BE0.out⟩
        have BQ1 : Aside0 (Ym wr.drew (w.heap.size + 1) _ _ _ _ _) := ⟨Yd BQ0.out⟩
        have LB1 := zz (Yt LB0.out); have LK1 := zz (Kept.drew LK0.out); obtain ⟨A9', e9, u0, u1, u2, u3, u4, u5, u6, u7⟩ := YN (Kd.Xi E1.out.l).2.2 ji Q0.out Q1.out; obtain rfl := Option.some.inj e9; clear u0 u1 u3 u4 u5 u6 u7 e9 E0 BE0 BQ0 LB0 LK0; refine ZR (n := 10) (S := fun w' => w'.cell? ⟨w.heap.size, 0, none⟩ = some (.slice A0 l0.length c0) ∧ w'.cell? ⟨w.heap.size, 1, none⟩ = some (.slice A1 l1.length c1) ∧ w'.cell? ⟨w.heap.size, 2, none⟩ = some (.slice (some A9) l2.length c2) ∧ w'.cell? ⟨w.heap.size, 3, none⟩ = some (.int .i64 a3) ∧ w'.cell? ⟨w.heap.size, 4, none⟩ = some (.bool a4) ∧ w'.cell? ⟨(A9.add (ji.toNat * 8)).block, (A9.add (ji.toNat * 8)).off + 2, none⟩ = some (.int .i64 (Xa l2 ji).f2)) (ds := [8, 9]) XoS zb13 rfl rfl ⟨BE1.out.cells.1, BE1.out.cells.2.1, BE1.out.cells.2.2.1, BE1.out.cells.2.2.2.1, BE1.out.cells.2.2.2.2, u2⟩ (fun hHeld => ?_); refine ZV Yu.XgG Yu.Xaw (fun HT_ HW_ => ?_); generalize wr.drew = w1 at E1 BE1 BQ1 LB1 LK1 u2 hHeld ⊢; refine pu 1 46 XoT HT_ ?_; refine pu 3 48 XoU HT_ ?_; refine pu 4 49 XoV HT_ ?_; refine tk 0 45 XoW HT_ HW_ hHeld ?_; refine tk 2 47 XoX HT_ HW_ hHeld ?_; refine pu 5 50 XoY HT_ ?_; refine pu 6 51 XoZ HT_ ?_; refine tk 7 52 Xpa HT_ HW_ hHeld ?_; refine Uz (i := 8) (N := some 53) Xpb rfl rfl (Zf HT_.out zb13) (by decide) (fun K hK => ?_); refine Ji Try.func137 zb13 rfl #[.agg #[.slice A0 l0.length c0, .slice A1 l1.length c1, .slice (some A9) l2.length c2, .int .i64 a3, .bool a4], .int .i64 (Xa l2 ji).f2] (by rfl) rfl rfl zb0 ?_
        with_reducible refine (Yg.to PD PM _ _ _ l0 l1 l2 a3 a4 (Xa l2 ji).f2 o1 o2 o3 o4 o5 w0 _ LB1.out E1.out A3_.out).mono ?_
        rintro e w6 ⟨B0, d0, B1, d1, B2, d2, rfl, PD', PM', hE6, hS6, hb6, hk6⟩; refine ⟨_, rfl, ?_⟩; have BE6 := zz (BE1.out.kept hk6 nE.out); have BQ6 := zz (BQ1.out.kept hk6 nQ.out); have LK6 := zz (LK1.out.Dk hk6 SP.out); have hn := zz LK1.out.1; have hlt := zz BQ1.out.lt
        have nE6 : Aside0 (¬ PE PD' PM' (.slice B2 o3.length d2) w.heap.size) := ⟨fun h_ => by
         rcases hS6 _ h_ with h1 | h1
         ·exact nE.out h1
         ·have := hlt.out; omega⟩
        have nQ6 : Aside0 (¬ PE PD' PM' (.slice B2 o3.length d2) (w.heap.size + 1)) := ⟨fun h_ => by
         rcases hS6 _ h_ with h1 | h1
         ·exact nQ.out h1
         ·have := hlt.out; omega⟩
        have S6 : Aside0 (∀ j, PE PD' PM' (.slice B2 o3.length d2) j → P j ∨ w.heap.size ≤ j) := ⟨fun j hj => (hS6 j hj).elim (SP.out j) (fun h_ => .inr (Nat.le_trans hn.out h_))⟩
        have E6 := zz hE6; have LB6 := zz hb6; clear hE6 hS6 hb6 hk6 E1 BE1 BQ1 LB1 LK1 SP nE nQ u2; obtain ⟨y0, y1_, y2_, y3_, y4_⟩ := BE6.out.cells; obtain ⟨f0, f1, f2, f3, f4⟩ := BE6.out.XC; refine hK.out _ _ ?_; clear hK K; refine YP (a' := ?_) ?_ ?_; rotate_left
        ·show Act.put _ (some 53) _ = _
         simp only [Act.put, List.setIfInBounds_toArray, List.set_cons_zero, List.set_cons_succ, XG, XW]
         rfl
        refine Uz (i := 9) (N := none) Xkt rfl rfl (Zf HT_.out zb13) (by decide) (fun K hK => ?_); refine M9 (w1 := ?_) (by rfl) rfl ?_ ?_; rotate_left
        ·go_simp
         rfl
        refine hK.out _ _ ?_; clear hK K; refine J4 (J9 HT_.out zb13) ?_; refine Xby (fun w' => VG w0 w' PD' PM' (.slice B0 o1.length d0) (.slice B1 o2.length d1) (.slice B2 o3.length d2) o1 o2 o3 ∧ Ym w' w.heap.size (.slice B0 o1.length d0) (.slice B1 o2.length d1) (.slice B2 o3.length d2) o4 o5 ∧ Ym w' (w.heap.size + 1) (.slice none 0 0) (.slice none 0 0) (.slice none 0 0) 0 false ∧ Below w0.heap.size w0 w' ∧ Kept w w' P) ⟨E6.out.Jj nE6.out, BE6.out.Xku, BQ6.out.Jj (by omega), (Xc (Xc (Xc (Xc (Xc LB6.out HZ.out) HZ.out) HZ.out) HZ.out) HZ.out), (((((LK6.out.setCell (p := ⟨w.heap.size, 0, none⟩) (.inr (Nat.le_refl _)) _).setCell (p := ⟨w.heap.size, 1, none⟩) (.inr (Nat.le_refl _)) _).setCell (p := ⟨w.heap.size, 2, none⟩) (.inr (Nat.le_refl _)) _).setCell (p := ⟨w.heap.size, 3, none⟩) (.inr (Nat.le_refl _)) _).setCell (p := ⟨w.heap.size, 4, none⟩) (.inr (Nat.le_refl _)) _)⟩ ?_; clear y0 y1_ y2_ y3_ y4_ f0 f1 f2 f3 f4 E6 BE6 BQ6 LB6 LK6 hlt hn; rintro w7 ⟨hE7, hBE7, hBQ7, hLB7, hLK7⟩; have E7 := zz hE7; have BE7 := zz hBE7; have BQ7 := zz hBQ7; have LB7 := zz hLB7; have LK7 := zz hLK7; clear hE7 hBE7 hBQ7 hLB7 hLK7; obtain ⟨A8, e8, u0, u1, u2, u3, u4, u5, u6, u7⟩ := YN (Kd.Xi E7.out.l).2.2 ji Q0.out Q4.out; subst e8; obtain ⟨x0, x1_, x2_, x3_, x4_⟩ := BE7.out.cells
        go_wp2
        go_roundg k1
        case measure => have := HK1.out; omega
        case rel => exact ⟨_, B0, d0, B1, d1, some A8, d2, PD', PM', o1, o2, o3, o4, o5, rfl, H, ⟨zb61⟩, E7, BE7, BQ7, LB7, LK7, S6, nE6, nQ6⟩
       ·rw [if_neg q3] at h
        have q3b : ((Xa l2 ji).f0 == 3) = false := beq_eq_false_iff_ne.mpr q3; have H := zz h; clear q3 h; obtain ⟨x0, x1_, x2_, x3_, x4_⟩ := BE0.out.cells
        go_wp2
        go_roundg k1
        case measure => have := HK1.out; omega
        case rel => exact ⟨_, A0, c0, A1, c1, some A9, c2, PD, PM, l0, l1, l2, a3, a4, rfl, H, ⟨zb61⟩, E0, BE0, BQ0, LB0, LK0, SP, nE, nQ⟩
      ·rw [if_neg q] at h
       simp only [Option.some.injEq, Prod.mk.injEq] at h; obtain ⟨rfl, rfl, rfl, rfl, rfl⟩ := h; have qb : decide (0 < x6) = false := decide_eq_false q; clear q; obtain ⟨g0, g1, g2, g3, g4⟩ := BE0.out.cells
       go_wp2_with fail
       clear g0 g1 g2 g3 g4; refine (XM.to k PD PM _ _ _ l0 l1 l2 a3 a4 4 tx 0 0 0 0 0 0 m1 m2 m3 m4 m5 m6 w0 _ LB0.out E0.out HX.out).mono ?_; rintro e w6 ⟨B0, d0, B1, d1, B2, d2, rfl, PD', PM', hE6, hS6, hb6, hk6⟩; have BQ6 := zz (BQ0.out.kept hk6 nQ.out); have LK6 := zz (LK0.out.Dk hk6 SP.out); have hn := zz LK0.out.1; have hlt := zz BQ0.out.lt
       have nQ6 : ¬ PE PD' PM' (.slice B2 m3.length d2) (w.heap.size + 1) := fun h_ => by
        rcases hS6 _ h_ with h1 | h1
        ·exact nQ.out h1
        ·have := hlt.out; omega
       have S6 : Aside0 (∀ j, PE PD' PM' (.slice B2 m3.length d2) j → P j ∨ w.heap.size ≤ j) := ⟨fun j hj => (hS6 j hj).elim (SP.out j) (fun h_ => .inr (Nat.le_trans hn.out h_))⟩
       have E6 := zz hE6; have LB6 := zz hb6; clear hE6 hS6 hb6 hk6 E0 BE0 BQ0 LB0 LK0 SP nE nQ; have hq6 : w.heap.size + 1 < w6.heap.size := BQ6.out.lt
       have hq7 : w6.heap.size ≠ w.heap.size + 1 := by omega
       have hq8 : w.heap.size + 1 ≠ w6.heap.size := by omega
       obtain ⟨y0, y1, y2, y3, y4⟩ := BQ6.out.cells; obtain ⟨f0, f1, f2, f3, f4⟩ := BQ6.out.XC; obtain ⟨hP⟩ := HP; subst hP
       go_wp2
       refine bodyPost_ret (v := .tuple #[.agg #[.slice B0 m1.length d0, .slice B1 m2.length d1, .slice B2 m3.length d2, .int .i64 (m3.length : Int), .bool m5], .bool true]) (by simp [results, Try.results135, go_sem, *]) rfl ⟨B0, d0, B1, d1, B2, d2, rfl, PD', PM', (E6.out.Jj nQ6).below (Xd (Below.refl _ _) _), S6.out, ?_, ?_⟩
       ·exact Xd (Xc (Xc (Xc (Xc (Xc LB6.out HZ1.out) HZ1.out) HZ1.out) HZ1.out) HZ1.out) _
       ·exact (((((LK6.out.setCell (p := ⟨w.heap.size + 1, 0, none⟩) (.inr (Nat.le_succ _)) _).setCell (p := ⟨w.heap.size + 1, 1, none⟩) (.inr (Nat.le_succ _)) _).setCell (p := ⟨w.heap.size + 1, 2, none⟩) (.inr (Nat.le_succ _)) _).setCell (p := ⟨w.heap.size + 1, 3, none⟩) (.inr (Nat.le_succ _)) _).setCell (p := ⟨w.heap.size + 1, 4, none⟩) (.inr (Nat.le_succ _)) _).alloc _
end Go.Proofs.Ytcefiblpnegepaa.Pr
