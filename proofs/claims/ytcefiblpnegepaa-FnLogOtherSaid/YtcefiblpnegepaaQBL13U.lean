import Derived.Test.YtcefiblpnegepaaQBByq
import Derived.Test.YtcefiblpnegepaaQBL13S
namespace Go.Proofs.Ytcefiblpnegepaa.Pr
open Go.RowKit Go.PW Go.PL Go.PM
attribute [local go_sem] Y3 Y4 YV YW Yk Yl Y5 Y6
set_option linter.unusedVariables false
set_option linter.unusedSimpArgs false
def Z9.l0 : Nat → List S25 → List S25 → List S41 → Int → Bool → Int → Option (List S25 × List S25 × List S41 × Int × Bool × Bool)
  | 0, _, _, _, _, _, _ => none
  | k + 1, l0, l1, l2, a3, a4, tx => (Xu.f k l2 tx).bind fun n => if n > 0 then (Zj.f k l0 l1 l2 a3 a4 tx).bind fun x => Z9.l0 k x.1 x.2.1 x.2.2.1 x.2.2.2.1 x.2.2.2.2 tx else some (l0, l1, l2, a3, a4, true)
def Z9.f (k : Nat) (l0 l1 : List S25) (l2 : List S41) (a3 : Int) (a4 : Bool) (tx : Int) : Option (List S25 × List S25 × List S41 × Int × Bool × Bool) := if a4 = true then some (l0, l1, l2, a3, a4, false) else (Ya.f tx 1 3).bind fun b => if b = true then (Xu.f k l2 tx).bind fun n => if n = 0 then some (l0, l1, l2, a3, a4, false) else Z9.l0 k l0 l1 l2 a3 a4 tx else some (l0, l1, l2, a3, a4, false)
theorem Vd {w w1 : World} {n : Nat} (h : w1 = w.drewN n) : Below w.heap.size w w1 := h ▸ XF (Below.refl _ _) n
theorem Ym.Xku {w : World} {g : Nat} {v0 v1 v2 u0 u1 u2 : Value} {s t : Int} {d b : Bool} (h : Ym w g v0 v1 v2 s d) : Ym (((((w.setCell ⟨g, 0, none⟩ u0).setCell ⟨g, 1, none⟩ u1).setCell ⟨g, 2, none⟩ u2).setCell ⟨g, 3, none⟩ (.int .i64 t)).setCell ⟨g, 4, none⟩ (.bool b)) g u0 u1 u2 t b :=
  X9 (X9 (X9 (X9 (X9 h 0 u0 rfl) 1 u1 rfl) 2 u2 rfl) 3 (.int .i64 t) rfl) 4 (.bool b) rfl
theorem Ym.Jj {w : World} {g g' : Nat} {v0 v1 v2 u0 u1 u2 u3 u4 : Value} {s : Int} {d : Bool} (h : Ym w g v0 v1 v2 s d) (hne : g ≠ g') : Ym (((((w.setCell ⟨g', 0, none⟩ u0).setCell ⟨g', 1, none⟩ u1).setCell ⟨g', 2, none⟩ u2).setCell ⟨g', 3, none⟩ u3).setCell ⟨g', 4, none⟩ u4) g v0 v1 v2 s d :=
  ((((h.far hne 0 u0).far hne 1 u1).far hne 2 u2).far hne 3 u3).far hne 4 u4
set_option maxHeartbeats 8000000 in
set_option maxRecDepth 100000 in
theorem Z9.to (k : Nat) (PD PM : Nat → Prop) (v0 v1 v2 : Value) (l0 l1 : List S25) (l2 : List S41) (a3 : Int) (a4 : Bool) (tx : Int) (r1 r2 : List S25) (r3 : List S41) (r4 : Int) (r5 r6 : Bool) (w0 w : World) (hB : Below w0.heap.size w0 w) (hE : VG w0 w PD PM v0 v1 v2 l0 l1 l2)
    (h : Z9.f k l0 l1 l2 a3 a4 tx = some (r1, r2, r3, r4, r5, r6)) :
    Calls Try.prog 136 #[.agg #[v0, v1, v2, .int .i64 a3, .bool a4], .int .i64 tx] w (WG w0 w (PE PD PM v2) r1 r2 r3 r4 r5 r6) := by
  obtain ⟨A0, c0, e0⟩ := Kd.Xx hE.d; obtain ⟨A1, c1, e1⟩ := Kd.Xx hE.m; obtain ⟨A2, c2, e2⟩ := Kd.Xx hE.l; subst e0 e1 e2; have HE := zz hE; have HB := zz hB; have HZ := zz hB.size; have HZ1 := zz (Nat.le_trans hB.size (Nat.le_succ _)); have hu52 := Try.underlying52
  have nE : ¬ PE PD PM (.slice A2 l2.length c2) w.heap.size := fun h => Nat.lt_irrefl _ (hE.lt _ h)
  have nQ : ¬ PE PD PM (.slice A2 l2.length c2) (w.heap.size + 1) := fun h => by have := hE.lt _ h; omega
  clear hE hB
  unfold Z9.f at h
  go_enter Try.func136, Try.ntmps136
  cases a4 with
  | true =>
    simp only [if_true, Option.some.injEq, Prod.mk.injEq] at h; obtain ⟨rfl, rfl, rfl, rfl, rfl, rfl⟩ := h
    go_wp2_with fail
    refine bodyPost_ret (v := .tuple #[.agg #[.slice A0 l0.length c0, .slice A1 l1.length c1, .slice A2 l2.length c2, .int .i64 a3, .bool true], .bool false]) (by simp [results, Try.results136, go_sem, hu52]) rfl ⟨A0, c0, A1, c1, A2, c2, rfl, PD, PM, HE.out.below (Xd (Xd (Below.refl w.heap.size w) _) _), fun j hj => .inl hj, ?_, ?_⟩
    · exact Xd (Xd HB.out _) _
    · exact ((Kept.refl w _).alloc _).alloc _
  | false =>
    simp only [Bool.false_eq_true, if_false] at h; replace h := Option.bind_eq_some_iff.mp h; obtain ⟨b0, hb0, h⟩ := h; have A0_ := zz hb0; have H := zz h; clear hb0 h
    go_wp2_with fail
    have E0 := zz (HE.out.below (Xd (Xd (Below.refl w.heap.size w) (.cells #[.slice A0 l0.length c0, .slice A1 l1.length c1, .slice A2 l2.length c2, .int .i64 a3, .bool false] 52)) (.cells #[.slice none 0 0, .slice none 0 0, .slice none 0 0, .int .i64 0, .bool false] 52)))
    have BE0 : Aside0 (Ym ((w.alloc (.cells #[.slice A0 l0.length c0, .slice A1 l1.length c1, .slice A2 l2.length c2, .int .i64 a3, .bool false] 52)).alloc (.cells #[.slice none 0 0, .slice none 0 0, .slice none 0 0, .int .i64 0, .bool false] 52)) w.heap.size (.slice A0 l0.length c0) (.slice A1 l1.length c1) (.slice A2 l2.length c2) a3 false) := ⟨XY (Ym.new _ _ _ _ _ _) _⟩
    have BQ0 : Aside0 (Ym ((w.alloc (.cells #[.slice A0 l0.length c0, .slice A1 l1.length c1, .slice A2 l2.length c2, .int .i64 a3, .bool false] 52)).alloc (.cells #[.slice none 0 0, .slice none 0 0, .slice none 0 0, .int .i64 0, .bool false] 52)) (w.heap.size + 1) (.slice none 0 0) (.slice none 0 0) (.slice none 0 0) 0 false) := ⟨zb111⟩
    have LB0 := zz (Xd (Xd HB.out (.cells #[.slice A0 l0.length c0, .slice A1 l1.length c1, .slice A2 l2.length c2, .int .i64 a3, .bool false] 52)) (.cells #[.slice none 0 0, .slice none 0 0, .slice none 0 0, .int .i64 0, .bool false] 52)); have LK0 := zz (((Kept.refl w (PE PD PM (.slice A2 l2.length c2))).alloc (.cells #[.slice A0 l0.length c0, .slice A1 l1.length c1, .slice A2 l2.length c2, .int .i64 a3, .bool false] 52)).alloc (.cells #[.slice none 0 0, .slice none 0 0, .slice none 0 0, .int .i64 0, .bool false] 52)); clear HB; refine (Ya.calls tx 1 3 b0 _ A0_.out).mono ?_; rintro e w1 ⟨rfl, nd, hw⟩
    have hb : Below ((w.alloc (.cells #[.slice A0 l0.length c0, .slice A1 l1.length c1, .slice A2 l2.length c2, .int .i64 a3, .bool false] 52)).alloc (.cells #[.slice none 0 0, .slice none 0 0, .slice none 0 0, .int .i64 0, .bool false] 52)).heap.size ((w.alloc (.cells #[.slice A0 l0.length c0, .slice A1 l1.length c1, .slice A2 l2.length c2, .int .i64 a3, .bool false] 52)).alloc (.cells #[.slice none 0 0, .slice none 0 0, .slice none 0 0, .int .i64 0, .bool false] 52)) w1 := by rw [hw]; exact XF (Below.refl _ _) nd
    clear hw nd; have E1 := zz (E0.out.below hb); have BE1 := zz (BE0.out.below hb); have BQ1 := zz (BQ0.out.below hb); have LB1 := zz (Xe LB0.out hb); have LK1 := zz (LK0.out.below hb); clear hb E0 BE0 BQ0 LB0 LK0; have h := H.out; clear H
    cases b0 with
    | false =>
      simp only [Bool.false_eq_true, if_false, Option.some.injEq, Prod.mk.injEq] at h; obtain ⟨rfl, rfl, rfl, rfl, rfl, rfl⟩ := h; obtain ⟨x0, x1, x2, x3, x4⟩ := BE1.out.cells; obtain ⟨y0, y1, y2, y3, y4⟩ := BQ1.out.cells; obtain ⟨f0, f1, f2, f3, f4⟩ := BQ1.out.XC
      go_wp2
      refine bodyPost_ret (v := .tuple #[.agg #[.slice A0 l0.length c0, .slice A1 l1.length c1, .slice A2 l2.length c2, .int .i64 a3, .bool false], .bool false]) (by simp [results, Try.results136, go_sem, *]) rfl ⟨A0, c0, A1, c1, A2, c2, rfl, PD, PM, E1.out.Jj nQ, fun j hj => .inl hj, ?_, ?_⟩
      · exact Xc (Xc (Xc (Xc (Xc LB1.out HZ1.out) HZ1.out) HZ1.out) HZ1.out) HZ1.out
      · exact ((((LK1.out.setCell (p := ⟨w.heap.size + 1, 0, none⟩) (.inr (Nat.le_succ _)) _).setCell (p := ⟨w.heap.size + 1, 1, none⟩) (.inr (Nat.le_succ _)) _).setCell (p := ⟨w.heap.size + 1, 2, none⟩) (.inr (Nat.le_succ _)) _).setCell (p := ⟨w.heap.size + 1, 3, none⟩) (.inr (Nat.le_succ _)) _).setCell (p := ⟨w.heap.size + 1, 4, none⟩) (.inr (Nat.le_succ _)) _
    | true =>
      simp only [if_true] at h; replace h := Option.bind_eq_some_iff.mp h; obtain ⟨n0, hn0, h⟩ := h; have A1_ := zz hn0; have H := zz h; clear hn0 h; obtain ⟨x0, x1, x2, x3, x4⟩ := BE1.out.cells; obtain ⟨y0, y1, y2, y3, y4⟩ := BQ1.out.cells; obtain ⟨f0, f1, f2, f3, f4⟩ := BQ1.out.XC
      go_wp2_with fail
      clear x0 x1 x2 x3 x4 y0 y1 y2 y3 y4 f0 f1 f2 f3 f4; refine (Xu.calls k A2 c2 l2 tx n0 _ (Kd.Xi E1.out.l).2.2 (Kd.Xi E1.out.l).2.1 A1_.out).mono ?_; rintro e w2 ⟨rfl, nd, hw⟩
      have hb : Below w1.heap.size w1 w2 := by rw [hw]; exact XF (Below.refl _ _) nd
      clear hw nd; have E2 := zz (E1.out.below hb); have BE2 := zz (BE1.out.below hb); have BQ2 := zz (BQ1.out.below hb); have LB2 := zz (Xe LB1.out hb); have LK2 := zz (LK1.out.below hb); clear hb E1 BE1 BQ1 LB1 LK1; have h := H.out; clear H
      by_cases q : n0 = 0
      · rw [if_pos q] at h
        simp only [Option.some.injEq, Prod.mk.injEq] at h; obtain ⟨rfl, rfl, rfl, rfl, rfl, rfl⟩ := h; have qb : (n0 == 0) = true := beq_iff_eq.mpr q; clear q; obtain ⟨x0, x1, x2, x3, x4⟩ := BE2.out.cells; obtain ⟨y0, y1, y2, y3, y4⟩ := BQ2.out.cells; obtain ⟨f0, f1, f2, f3, f4⟩ := BQ2.out.XC
        go_wp2
        refine bodyPost_ret (v := .tuple #[.agg #[.slice A0 l0.length c0, .slice A1 l1.length c1, .slice A2 l2.length c2, .int .i64 a3, .bool false], .bool false]) (by simp [results, Try.results136, go_sem, *]) rfl ⟨A0, c0, A1, c1, A2, c2, rfl, PD, PM, E2.out.Jj nQ, fun j hj => .inl hj, ?_, ?_⟩
        · exact Xc (Xc (Xc (Xc (Xc LB2.out HZ1.out) HZ1.out) HZ1.out) HZ1.out) HZ1.out
        · exact ((((LK2.out.setCell (p := ⟨w.heap.size + 1, 0, none⟩) (.inr (Nat.le_succ _)) _).setCell (p := ⟨w.heap.size + 1, 1, none⟩) (.inr (Nat.le_succ _)) _).setCell (p := ⟨w.heap.size + 1, 2, none⟩) (.inr (Nat.le_succ _)) _).setCell (p := ⟨w.heap.size + 1, 3, none⟩) (.inr (Nat.le_succ _)) _).setCell (p := ⟨w.heap.size + 1, 4, none⟩) (.inr (Nat.le_succ _)) _
      · rw [if_neg q] at h
        have qb : (n0 == 0) = false := beq_eq_false_iff_ne.mpr q; have H' := zz h; clear q h
        obtain ⟨P, hP⟩ : ∃ P_, PE PD PM (.slice A2 l2.length c2) = P_ := ⟨_, rfl⟩
        have SP := zz (show ∀ j, PE PD PM (.slice A2 l2.length c2) j → P j ∨ w.heap.size ≤ j from fun j hj => .inl (hP ▸ hj)); rw [hP] at LK2 ⊢; have HP := zz hP; clear hP HE; obtain ⟨x0, x1, x2, x3, x4⟩ := BE2.out.cells; obtain ⟨y0, y1, y2, y3, y4⟩ := BQ2.out.cells; obtain ⟨f0, f1, f2, f3, f4⟩ := BQ2.out.XC
        go_wp2
        clear x0 x1 x2 x3 x4 y0 y1 y2 y3 y4 f0 f1 f2 f3 f4
        go_loopg [] k (fun kq w' => ∃ (A0 : Option Addr) (c0 : Nat) (A1 : Option Addr) (c1 : Nat) (A2 : Option Addr) (c2 : Nat) (PD PM : Nat → Prop) (l0 l1 : List S25) (l2 : List S41) (a3 : Int) (a4 : Bool), Aside0 (Z9.l0 kq l0 l1 l2 a3 a4 tx = some (r1, r2, r3, r4, r5, r6)) ∧ Aside0 (kq ≤ k) ∧ Aside0 (VG w0 w' PD PM (.slice A0 l0.length c0) (.slice A1 l1.length c1) (.slice A2 l2.length c2) l0 l1 l2) ∧ Aside0 (Ym w' w.heap.size (.slice A0 l0.length c0) (.slice A1 l1.length c1) (.slice A2 l2.length c2) a3 a4) ∧ Aside0 (Ym w' (w.heap.size + 1) (.slice none 0 0) (.slice none 0 0) (.slice none 0 0) 0 false) ∧ Aside0 (Below w0.heap.size w0 w') ∧ Aside0 (Kept w w' P) ∧ Aside0 (∀ j, PE PD PM (.slice A2 l2.length c2) j → P j ∨ w.heap.size ≤ j) ∧ Aside0 (¬ PE PD PM (.slice A2 l2.length c2) w.heap.size) ∧ Aside0 (¬ PE PD PM (.slice A2 l2.length c2) (w.heap.size + 1)))
        case atStart => exact ⟨A0, c0, A1, c1, A2, c2, PD, PM, l0, l1, l2, a3, false, H', ⟨Nat.le_refl _⟩, E2, BE2, BQ2, LB2, LK2, SP, ⟨nE⟩, ⟨nQ⟩⟩
        case round =>
          clear H' E2 BE2 BQ2 LB2 LK2 SP nE nQ A0_ A1_; obtain ⟨A0, c0, A1, c1, A2, c2, PD, PM, l0, l1, l2, a3, a4, HA, HK1, E0, BE0, BQ0, LB0, LK0, SP, nE, nQ⟩ := hrel
          cases gk with
          | zero => exact absurd HA.out (by simp [Z9.l0])
          | succ k1 =>
            have h := HA.out; clear HA; simp only [Z9.l0] at h; replace h := Option.bind_eq_some_iff.mp h; obtain ⟨m0, hm0, h⟩ := h; have A2_ := zz hm0; have H := zz h; clear hm0 h; obtain ⟨x0, x1, x2, x3, x4⟩ := BE0.out.cells; obtain ⟨y0, y1, y2, y3, y4⟩ := BQ0.out.cells; obtain ⟨f0, f1, f2, f3, f4⟩ := BQ0.out.XC
            go_wp2_with fail
            clear x0 x1 x2 x3 x4 y0 y1 y2 y3 y4 f0 f1 f2 f3 f4; refine (Xu.calls k1 A2 c2 l2 tx m0 _ (Kd.Xi E0.out.l).2.2 (Kd.Xi E0.out.l).2.1 A2_.out).mono ?_; rintro e w1 ⟨rfl, nd, hw⟩; have hb := Vd hw; clear hw nd; have E1 := zz (E0.out.below hb); have BE1 := zz (BE0.out.below hb); have BQ1 := zz (BQ0.out.below hb); have LB1 := zz (Xe LB0.out hb); have LK1 := zz (LK0.out.below hb); clear hb E0 BE0 BQ0 LB0 LK0; have h := H.out; clear H
            by_cases q : m0 > 0
            · rw [if_pos q] at h
              replace h := Option.bind_eq_some_iff.mp h; obtain ⟨⟨z1, z2, z3, z4, z5⟩, hz, h⟩ := h; have A3_ := zz hz; have H := zz h; have q2b : decide (0 < m0) = true := decide_eq_true q; clear q hz h; obtain ⟨x0, x1, x2, x3, x4⟩ := BE1.out.cells; obtain ⟨y0, y1, y2, y3, y4⟩ := BQ1.out.cells; obtain ⟨f0, f1, f2, f3, f4⟩ := BQ1.out.XC
              go_wp2_with fail
              clear x0 x1 x2 x3 x4 y0 y1 y2 y3 y4 f0 f1 f2 f3 f4; refine (Zj.to k1 PD PM _ _ _ l0 l1 l2 a3 a4 tx z1 z2 z3 z4 z5 w0 _ LB1.out E1.out A3_.out).mono ?_; rintro e w6 ⟨B0, d0, B1, d1, B2, d2, rfl, PD', PM', hE6, hS6, hb6, hk6⟩; have BE6 := zz (BE1.out.kept hk6 nE.out); have BQ6 := zz (BQ1.out.kept hk6 nQ.out); have LK6 := zz (LK1.out.Dk hk6 SP.out); have hn := zz LK1.out.1; have hlt := zz BQ1.out.lt
              have nE6 : Aside0 (¬ PE PD' PM' (.slice B2 z3.length d2) w.heap.size) := ⟨fun h_ => by
                rcases hS6 _ h_ with h1 | h1
                · exact nE.out h1
                · have := hlt.out; omega⟩
              have nQ6 : Aside0 (¬ PE PD' PM' (.slice B2 z3.length d2) (w.heap.size + 1)) := ⟨fun h_ => by
                rcases hS6 _ h_ with h1 | h1
                · exact nQ.out h1
                · have := hlt.out; omega⟩
              have S6 : Aside0 (∀ j, PE PD' PM' (.slice B2 z3.length d2) j → P j ∨ w.heap.size ≤ j) := ⟨fun j hj => (hS6 j hj).elim (SP.out j) (fun h_ => .inr (Nat.le_trans hn.out h_))⟩
              have E6 := zz hE6; have LB6 := zz hb6; clear hE6 hS6 hb6 hk6 E1 BE1 BQ1 LB1 LK1 SP nE nQ; obtain ⟨y0, y1, y2, y3, y4⟩ := BE6.out.cells; obtain ⟨f0, f1, f2, f3, f4⟩ := BE6.out.XC
              go_wp2
              go_roundg k1
              case measure => have := HK1.out; omega
              case rel => exact ⟨B0, d0, B1, d1, B2, d2, PD', PM', z1, z2, z3, z4, z5, H, ⟨zb61⟩, ⟨E6.out.Jj nE6.out⟩, ⟨BE6.out.Xku⟩, ⟨BQ6.out.Jj (by omega)⟩, ⟨(Xc (Xc (Xc (Xc (Xc LB6.out HZ.out) HZ.out) HZ.out) HZ.out) HZ.out)⟩, ⟨(((((LK6.out.setCell (p := ⟨w.heap.size, 0, none⟩) (.inr (Nat.le_refl _)) _).setCell (p := ⟨w.heap.size, 1, none⟩) (.inr (Nat.le_refl _)) _).setCell (p := ⟨w.heap.size, 2, none⟩) (.inr (Nat.le_refl _)) _).setCell (p := ⟨w.heap.size, 3, none⟩) (.inr (Nat.le_refl _)) _).setCell (p := ⟨w.heap.size, 4, none⟩) (.inr (Nat.le_refl _)) _)⟩, S6, nE6, nQ6⟩
            · obtain ⟨hP⟩ := HP
              subst hP; rw [if_neg q] at h; simp only [Option.some.injEq, Prod.mk.injEq] at h; obtain ⟨rfl, rfl, rfl, rfl, rfl, rfl⟩ := h; have q2b : decide (0 < m0) = false := decide_eq_false q; clear q; obtain ⟨x0, x1, x2, x3, x4⟩ := BE1.out.cells; obtain ⟨y0, y1, y2, y3, y4⟩ := BQ1.out.cells; obtain ⟨f0, f1, f2, f3, f4⟩ := BQ1.out.XC
              go_wp2
              refine bodyPost_ret (v := .tuple #[.agg #[.slice A0 l0.length c0, .slice A1 l1.length c1, .slice A2 l2.length c2, .int .i64 a3, .bool a4], .bool true]) (by simp [results, Try.results136, go_sem, *]) rfl ⟨A0, c0, A1, c1, A2, c2, rfl, PD, PM, E1.out.Jj nQ.out, SP.out, ?_, ?_⟩
              · exact (Xc (Xc (Xc (Xc (Xc LB1.out HZ1.out) HZ1.out) HZ1.out) HZ1.out) HZ1.out)
              · exact (((((LK1.out.setCell (p := ⟨w.heap.size + 1, 0, none⟩) (.inr (Nat.le_succ _)) _).setCell (p := ⟨w.heap.size + 1, 1, none⟩) (.inr (Nat.le_succ _)) _).setCell (p := ⟨w.heap.size + 1, 2, none⟩) (.inr (Nat.le_succ _)) _).setCell (p := ⟨w.heap.size + 1, 3, none⟩) (.inr (Nat.le_succ _)) _).setCell (p := ⟨w.heap.size + 1, 4, none⟩) (.inr (Nat.le_succ _)) _)
end Go.Proofs.Ytcefiblpnegepaa.Pr
