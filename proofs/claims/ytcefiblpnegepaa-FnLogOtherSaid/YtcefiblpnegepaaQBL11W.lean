import Derived.Test.YtcefiblpnegepaaQBByq
import Derived.Test.YtcefiblpnegepaaQBENew
import Derived.Test.YtcefiblpnegepaaQBSh
namespace Go.Proofs.Ytcefiblpnegepaa.Pr
open Go.RowKit Go.PW Go.PL Go.PM
attribute [local go_sem] Y3 Y4 YV YW Yk Yl Y5 Y6
set_option linter.unusedVariables false
set_option linter.unusedSimpArgs false
abbrev XgH : Array Bool := #[false, false, false, false, false, false, false, false, false, false, false]
abbrev XgI : Array Bool := #[true, false, false, false, false, false, false, false, false, false, false]
abbrev XgJ : Array Bool := #[true, false, true, false, false, false, false, false, false, false, false]
abbrev Xoo : Array Bool := #[true, false, true, false, true, false, false, false, false, false, false]
abbrev Xop : Array Bool := #[true, false, true, true, false, false, false, false, false, false, false]
abbrev Xoq : Array Bool := #[true, false, true, true, false, true, false, false, false, false, false]
abbrev Xor : Array Bool := #[true, true, true, false, true, false, false, false, false, false, false]
abbrev Xos : Array Bool := #[true, true, true, true, false, true, false, false, false, false, false]
abbrev Xot : Array Bool := #[true, true, true, true, true, false, false, false, false, false, false]
abbrev XgK : Array Bool := #[true, true, true, true, true, true, false, false, false, false, false]
abbrev Xdf : Array Bool := #[true, true, true, true, true, true, true, false, false, false, false]
abbrev Xdg : Array Bool := #[true, true, true, true, true, true, true, true, false, false, false]
abbrev Xdh : Array Bool := #[true, true, true, true, true, true, true, true, true, false, false]
abbrev Xdi : Array Bool := #[true, true, true, true, true, true, true, true, true, true, false]
abbrev Xdj : Array Bool := #[true, true, true, true, true, true, true, true, true, true, true]
def Yg.f (l0 l1 : List S25) (l2 : List S41) (a3 : Int) (a4 : Bool) (a1 : Int) : Option (List S25 × List S25 × List S41 × Int × Bool) := if 0 ≤ a1 then (if a1 < (l1.length : Int) then (if a1 < (l0.length : Int) then ((J5.f (Xn l1 a1).f0 (Xn l1 a1).f1 (Xn l1 a1).f2).bind fun x => some (l0.set a1.toNat ⟨x.1, x.2.1, x.2.2⟩, l1, l2, mx a3 (Xn l1 a1).f0, a4)) else none) else none) else none
def Yg.T1 : Bool × List (List Nat × List Nat) := (true, [([], []), ([0], [0]), ([], []), ([2], [2]), ([], []), ([3, 4], [3, 4]), ([5], [5]), ([6], [6]), ([1, 7], [1, 7]), ([0, 1, 2, 3, 4, 5, 6, 7, 8], []), ([9, 8, 0, 1, 2, 3, 4, 5, 6, 7, 8], [8, 9])])
def Yg.B1 : List Nat := [0, 1, 0, 4, 0, 28, 60, 124, 255, 511, 1023]
theorem Yg.Xou : JG .any (opsOf Try.f137 1) = Yg.T1 := by kernel_rfl
theorem Yg.XgL : Jh Yg.T1.2 Yg.B1 = true := by kernel_rfl
def Yg.T2 : Bool × List (List Nat × List Nat) := (true, [([], []), ([0], [0]), ([], []), ([], []), ([3], [3]), ([], []), ([4, 5], [4, 5]), ([6], [6]), ([7], [7]), ([1, 2, 0, 1, 2, 3, 4, 5, 6, 7, 8], [1, 2]), ([9, 8, 8, 0, 1, 2, 3, 4, 5, 6, 7, 8], [8, 9])])
def Yg.B2 : List Nat := [0, 1, 0, 0, 8, 0, 56, 120, 248, 511, 1023]
theorem Yg.Xov : JG .any (opsOf Try.f137 2) = Yg.T2 := by kernel_rfl
theorem Yg.XgM : Jh Yg.T2.2 Yg.B2 = true := by kernel_rfl
set_option maxHeartbeats 8000000 in
set_option maxRecDepth 100000 in
theorem Yg.to (PD PM : Nat → Prop) (v0 v1 v2 : Value) (l0 l1 : List S25) (l2 : List S41) (a3 : Int) (a4 : Bool) (a1 : Int) (r1 r2 : List S25) (r3 : List S41) (r4 : Int) (r5 : Bool) (w0 w : World) (hB : Below w0.heap.size w0 w) (hE : VG w0 w PD PM v0 v1 v2 l0 l1 l2)
    (h : Yg.f l0 l1 l2 a3 a4 a1 = some (r1, r2, r3, r4, r5)) :
    Calls Try.prog 137 #[.agg #[v0, v1, v2, .int .i64 a3, .bool a4], .int .i64 a1] w fun e w' => ∃ A0 c0 A1 c1 A2 c2, e = .returned (.agg #[.slice A0 r1.length c0, .slice A1 r2.length c1, .slice A2 r3.length c2, .int .i64 r4, .bool r5]) ∧ XcZ w0 w (PE PD PM v2) w' (.slice A0 r1.length c0) (.slice A1 r2.length c1) (.slice A2 r3.length c2) r1 r2 r3 := by
  obtain ⟨A2, c2, e2⟩ := Kd.Xx hE.l; subst e2
  unfold Yg.f at h
  by_cases q0 : 0 ≤ a1
  rotate_left
  · rw [if_neg q0] at h
    exact absurd h (by simp)
  rw [if_pos q0] at h
  by_cases q1 : a1 < (l1.length : Int)
  rotate_left
  · rw [if_neg q1] at h
    exact absurd h (by simp)
  rw [if_pos q1] at h
  by_cases q2 : a1 < (l0.length : Int)
  rotate_left
  · rw [if_neg q2] at h
    exact absurd h (by simp)
  rw [if_pos q2] at h; replace h := Option.bind_eq_some_iff.mp h; obtain ⟨⟨d0, d1, d2⟩, hcp, h⟩ := h; have AD := zz hcp; simp only [Option.some.injEq, Prod.mk.injEq] at h; obtain ⟨rfl, rfl, rfl, h4, rfl⟩ := h; clear hcp; have h4' : (if a3 < (Xn l1 a1).f0 then (Xn l1 a1).f0 else a3) = r4 := h4; obtain ⟨gm, cm, em, hgmb, hgml, hgmt⟩ := Kd.Nv hE.m (by omega); subst em; obtain ⟨gd, cd, ed, hgdb, hgdl, hgdt⟩ := Kd.Nv hE.d (by omega); subst ed; have Q0 := zz q0; have Q1 := zz q1; have Q2 := zz q2; have p0 := eq_true q0; have p1 := eq_true q1; have p2 := eq_true q2; have HE := zz hE; have HB := zz hB; have hu52 := Try.underlying52; have HZ := zz hB.size; have HZ1 := zz (Nat.le_trans hB.size (Nat.le_succ _)); clear hE hB q0 q1 q2 hgmt hgdt h4
  go_enter Try.func137, Try.ntmps137
  go_wp2_with fail
  have nE : ¬ PE PD PM (.slice A2 l2.length c2) w.heap.size := fun h => Nat.lt_irrefl _ (HE.out.lt _ h)
  have nQ : ¬ PE PD PM (.slice A2 l2.length c2) (w.heap.size + 1) := fun h => by have := HE.out.lt _ h; omega
  refine XnR (fun w' => VG w0 w' PD PM (.slice (some ⟨gd, 0, none⟩) l0.length cd) (.slice (some ⟨gm, 0, none⟩) l1.length cm) (.slice A2 l2.length c2) l0 l1 l2 ∧ Ym w' w.heap.size (.slice (some ⟨gd, 0, none⟩) l0.length cd) (.slice (some ⟨gm, 0, none⟩) l1.length cm) (.slice A2 l2.length c2) a3 a4 ∧ Ym w' (w.heap.size + 1) (.slice none 0 0) (.slice none 0 0) (.slice none 0 0) 0 false ∧ Below w0.heap.size w0 w' ∧ Kept w w' (PE PD PM (.slice A2 l2.length c2))) ⟨HE.out.below (Xd (Xd (Below.refl _ _) _) _), XY (Ym.new _ _ _ _ _ _) _, by have h_ := Ym.new (w.alloc (.cells #[.slice (some ⟨gd, 0, none⟩) l0.length cd, .slice (some ⟨gm, 0, none⟩) l1.length cm, .slice A2 l2.length c2, .int .i64 a3, .bool a4] 52)) (.slice none 0 0) (.slice none 0 0) (.slice none 0 0) 0 false; simpa using h_, Xd (Xd HB.out _) _, ((Kept.refl w _).alloc _).alloc _⟩ ?_; clear HB; rintro w1 ⟨hE1, hBE, hBQ, hLB, hLK⟩; have E1 := zz hE1; have BE := zz hBE; have BQ := zz hBQ; have LB := zz hLB; have LK := zz hLK; clear hE1 hBE hBQ hLB hLK; have E2 := zz (E1.out.below (XX (Below.refl _ _)))
  have BE2 : Aside0 (Ym w1.drew w.heap.size _ _ _ _ _) := ⟨Yd BE.out⟩
  have BQ2 : Aside0 (Ym w1.drew (w.heap.size + 1) _ _ _ _ _) := ⟨Yd BQ.out⟩
  have LB2 := zz (Yt LB.out); have LK2 := zz (Kept.drew LK.out); obtain ⟨ce, hcl, hM, hcc, hfr⟩ := Kd.FO E2.out.m z25 a1 Q0.out Q1.out; obtain ⟨v7, rfl, hR7⟩ := JP hM; have g0 : w1.drew.cell? ⟨gm, (a1 : Int).toNat * 3, none⟩ = some (.int .i64 (Xn l1 a1).f0) := hcc 0 _ rfl; clear hcl hM hcc hfr hR7 E1 BE BQ LB LK; refine ZR (n := 11) (S := fun w' => w'.cell? ⟨w.heap.size, 1, none⟩ = some (.slice (some ⟨gm, 0, none⟩) l1.length cm) ∧ w'.cell? ⟨w.heap.size, 3, none⟩ = some (.int .i64 a3) ∧ w'.cell? ⟨gm, (a1 : Int).toNat * 3, none⟩ = some (.int .i64 (Xn l1 a1).f0)) (ds := [10]) XgH zb13 rfl rfl ⟨BE2.out.cells.2.1, BE2.out.cells.2.2.2.1, g0⟩ (fun hHeld => ?_); refine ZV Yg.Xou Yg.XgL (fun HT_ HW_ => ?_); generalize w1.drew = w2 at E2 BE2 BQ2 LB2 LK2 g0 hHeld ⊢; refine pu 0 5 XgI HT_ ?_; refine pu 2 7 XgJ HT_ ?_; refine pu 4 9 Xoo HT_ ?_; refine tk 1 6 Xor HT_ HW_ hHeld ?_; refine tk 3 8 Xot HT_ HW_ hHeld ?_; refine pu 5 10 XgK HT_ ?_; refine pu 6 11 Xdf HT_ ?_; refine tk 7 12 Xdg HT_ HW_ hHeld ?_; refine pu 8 13 Xdh HT_ ?_; refine pu 9 14 Xdi HT_ ?_; refine Uz (i := 10) (N := none) Xdj rfl rfl (Zf HT_.out zb13) (by decide) (fun K hK => ?_); have x3 := BE2.out.cells.2.2.2.1; have xf := BE2.out.frozen 3; refine M9 (w1 := ?_) (by rfl) rfl ?_ ?_; rotate_left
  · go_simp
    rfl
  refine hK.out _ _ ?_; clear hK K; refine J4 (J9 HT_.out zb13) ?_; refine Qe (fun w' => VG w0 w' PD PM (.slice (some ⟨gd, 0, none⟩) l0.length cd) (.slice (some ⟨gm, 0, none⟩) l1.length cm) (.slice A2 l2.length c2) l0 l1 l2 ∧ Ym w' w.heap.size (.slice (some ⟨gd, 0, none⟩) l0.length cd) (.slice (some ⟨gm, 0, none⟩) l1.length cm) (.slice A2 l2.length c2) r4 a4 ∧ Ym w' (w.heap.size + 1) (.slice none 0 0) (.slice none 0 0) (.slice none 0 0) 0 false ∧ Below w0.heap.size w0 w' ∧ Kept w w' (PE PD PM (.slice A2 l2.length c2))) ⟨E2.out.far nE _ _, X9 BE2.out 3 _ rfl, BQ2.out.far (by omega) _ _, Xc LB2.out (Nat.le_trans HZ.out (Nat.le_refl _)), LK2.out.setCell (p := ⟨w.heap.size, 3, none⟩) (.inr (Nat.le_refl _)) _⟩ ?_; clear E2 BE2 BQ2 LB2 LK2 g0 hHeld x3 xf; rintro w3 ⟨hE1, hBE, hBQ, hLB, hLK⟩; have E1 := zz hE1; have BE := zz hBE; have BQ := zz hBQ; have LB := zz hLB; have LK := zz hLK; clear hE1 hBE hBQ hLB hLK
  go_wp2_with fail
  have E4 := zz (E1.out.below (XX (Below.refl _ _)))
  have BE4 : Aside0 (Ym w3.drew w.heap.size _ _ _ _ _) := ⟨Yd BE.out⟩
  have BQ4 : Aside0 (Ym w3.drew (w.heap.size + 1) _ _ _ _ _) := ⟨Yd BQ.out⟩
  have LB4 := zz (Yt LB.out); have LK4 := zz (Kept.drew LK.out); obtain ⟨ce, hcl, hM, hcc, hfr⟩ := Kd.FO E4.out.m z25 a1 Q0.out Q1.out; obtain ⟨v7, rfl, hR7⟩ := JP hM; obtain ⟨A7, c7, e7⟩ := Kd.Xx hR7
  change v7 = .slice A7 (Xn l1 a1).f2.length c7 at e7
  subst e7; have g0 : w3.drew.cell? ⟨gm, (a1 : Int).toNat * 3, none⟩ = some (.int .i64 (Xn l1 a1).f0) := hcc 0 _ rfl; have g1 : w3.drew.cell? ⟨gm, (a1 : Int).toNat * 3 + 1, none⟩ = some (.int .i64 (Xn l1 a1).f1) := hcc 1 _ rfl; have g2 : w3.drew.cell? ⟨gm, (a1 : Int).toNat * 3 + 2, none⟩ = some (.slice A7 (Xn l1 a1).f2.length c7) := hcc 2 _ rfl; have R7 := zz (show Kd.R (Kd.int .i64) 3 w3.drew w0.heap.size _ (.slice A7 (Xn l1 a1).f2.length c7) (Xn l1 a1).f2 from hR7); clear hcl hM hcc hfr hR7 E1 BE BQ LB LK; refine ZR (n := 11) (S := fun w' => w'.cell? ⟨w.heap.size, 0, none⟩ = some (.slice (some ⟨gd, 0, none⟩) l0.length cd) ∧ w'.cell? ⟨w.heap.size, 1, none⟩ = some (.slice (some ⟨gm, 0, none⟩) l1.length cm) ∧ w'.cell? ⟨gm, (a1 : Int).toNat * 3, none⟩ = some (.int .i64 (Xn l1 a1).f0) ∧ w'.cell? ⟨gm, (a1 : Int).toNat * 3 + 1, none⟩ = some (.int .i64 (Xn l1 a1).f1) ∧ w'.cell? ⟨gm, (a1 : Int).toNat * 3 + 2, none⟩ = some (.slice A7 (Xn l1 a1).f2.length c7)) (ds := [10]) XgH zb13 rfl rfl ⟨BE4.out.cells.1, BE4.out.cells.2.1, g0, g1, g2⟩ (fun hHeld => ?_); refine ZV Yg.Xov Yg.XgM (fun HT_ HW_ => ?_); generalize w3.drew = w4 at E4 BE4 BQ4 LB4 LK4 g0 g1 g2 R7 hHeld ⊢; refine pu 0 15 XgI HT_ ?_; refine pu 2 17 XgJ HT_ ?_; refine pu 3 18 Xop HT_ ?_; refine pu 5 20 Xoq HT_ ?_; refine tk 1 16 Xos HT_ HW_ hHeld ?_; refine tk 4 19 XgK HT_ HW_ hHeld ?_; refine pu 6 21 Xdf HT_ ?_; refine tk 7 22 Xdg HT_ HW_ hHeld ?_; refine Vr (i := 8) (N := some 23) Xdh rfl rfl (Zf HT_.out zb13) (by decide) (fun K hK => ?_)
  refine Ji Try.func118 zb13 rfl #[.agg #[.int .i64 (Xn l1 a1).f0, .int .i64 (Xn l1 a1).f1, .slice A7 (Xn l1 a1).f2.length c7]] (by rfl) rfl rfl zb0 ?_
  with_reducible refine (J5.calls (Xn l1 a1).f0 (Xn l1 a1).f1 A7 c7 (Xn l1 a1).f2 d0 d1 d2 _ (Kd.Xi R7.out).2.2 (Kd.Xi R7.out).2.1 AD.out).mono ?_
  rintro e w6 ⟨v6, rfl, ho, hb⟩; refine ⟨_, rfl, ?_⟩; have hgm4 : gm < w4.heap.size := Kd.J2 E4.out.m gm rfl; have k0 := (hb.cell (p := ⟨gm, (a1 : Int).toNat * 3, none⟩) hgm4).trans g0; have k1 := (hb.cell (p := ⟨gm, (a1 : Int).toNat * 3 + 1, none⟩) hgm4).trans g1; have k2 := (hb.cell (p := ⟨gm, (a1 : Int).toNat * 3 + 2, none⟩) hgm4).trans g2; have E6 := zz (E4.out.below hb); have BE6 := zz (BE4.out.below hb); have BQ6 := zz (BQ4.out.below hb); have LB6 := zz (Xe LB4.out hb); have LK6 := zz (LK4.out.below hb); have RV := zz (Kd.Zv ho); have hn4 := zz LK4.out.1; have hq4 := zz BQ4.out.lt; have hb4 := zz LB4.out.size; have EL4 := zz E4.out.lt; obtain ⟨A6, c6, e6⟩ := Kd.Xx ho; subst e6; clear ho hb E4 BE4 BQ4 LB4 LK4 g0 g1 g2 R7; obtain ⟨ce, hcl, hM, hcc, hfr⟩ := Kd.FO E6.out.d z25 a1 Q0.out Q2.out; obtain ⟨v8, rfl, hR8⟩ := JP hM; have hx0 : w6.cell? ⟨gd, (a1 : Int).toNat * 3, none⟩ = some (.int .i64 (Xn l0 a1).f0) := hcc 0 _ rfl; have hx1 : w6.cell? ⟨gd, (a1 : Int).toNat * 3 + 1, none⟩ = some (.int .i64 (Xn l0 a1).f1) := hcc 1 _ rfl; have hx2 : w6.cell? ⟨gd, (a1 : Int).toNat * 3 + 2, none⟩ = some v8 := hcc 2 _ rfl; have hf0 : w6.frozen? ⟨gd, (a1 : Int).toNat * 3, none⟩ = false := hfr 0; have hf1 : w6.frozen? ⟨gd, (a1 : Int).toNat * 3 + 1, none⟩ = false := hfr 1; have hf2 : w6.frozen? ⟨gd, (a1 : Int).toNat * 3 + 2, none⟩ = false := hfr 2; have HP := Kd.Xax (Kd.XN E6.out.d (ok' := fun j => PD j ∨ w4.heap.size ≤ j) (fun j hj => .inl hj)) a1 Q0.out Q2.out (seg := [.int .i64 d0, .int .i64 d1, .slice A6 d2.length c6]) (j := 0) (okp := fun j => w4.heap.size ≤ j) hcl hcc (show 3 ≤ 3 from by decide) (x' := (⟨d0, d1, d2⟩ : S25)) (WJ _ _ _ (⟨d0, d1, d2⟩ : S25) (Kd.XN (Kd.XT RV.out hb4.out) (fun j hj => hj.2.1))) (fun j hj => ⟨.inr hj, by have := hn4.out; omega⟩)
  have HQ := zz HP.1; clear hcl hM hcc hfr HP hR8; refine hK.out _ _ ⟨BE6.out.cells.1, BE6.out.cells.2.1, k0, k1, k2⟩ (fun hHeld => ?_); clear hK K; refine YP (a' := ?_) ?_ ?_; rotate_left
  · show Act.put _ (some 23) _ = _
    simp only [Act.put, List.setIfInBounds_toArray, List.set_cons_zero, List.set_cons_succ, XG, XW]
    rfl
  refine pu 9 24 Xdi HT_ ?_; refine Uz (i := 10) (N := none) Xdj rfl rfl (Zf HT_.out zb13) (by decide) (fun K hK => ?_); refine M9 (w1 := ?_) (by rfl) rfl ?_ ?_; rotate_left
  · go_simp
    rfl
  refine hK.out _ _ ?_; clear hK K; refine J4 (J9 HT_.out zb13) ?_; have hPg : PD gd := E6.out.d.1 gd rfl; have hgd6 : gd < w.heap.size := hgdl; have KK : Kept w6 (((w6.setCell ⟨gd, (a1 : Int).toNat * 3, none⟩ (.int .i64 d0)).setCell ⟨gd, (a1 : Int).toNat * 3 + 1, none⟩ (.int .i64 d1)).setCell ⟨gd, (a1 : Int).toNat * 3 + 2, none⟩ (.slice A6 d2.length c6)) (fun j => j = gd) := (((Kept.refl w6 (fun j => j = gd)).setCell (p := ⟨gd, (a1 : Int).toNat * 3, none⟩) (.inl rfl) (.int .i64 d0)).setCell (p := ⟨gd, (a1 : Int).toNat * 3 + 1, none⟩) (.inl rfl) (.int .i64 d1)).setCell (p := ⟨gd, (a1 : Int).toNat * 3 + 2, none⟩) (.inl rfl) (.slice A6 d2.length c6); refine Qe (fun w' => VG w0 w' (fun j => (PD j ∨ w4.heap.size ≤ j) ∧ j < w'.heap.size) PM (.slice (some ⟨gd, 0, none⟩) l0.length cd) (.slice (some ⟨gm, 0, none⟩) l1.length cm) (.slice A2 l2.length c2) (l0.set a1.toNat ⟨d0, d1, d2⟩) l1 l2 ∧ Ym w' w.heap.size (.slice (some ⟨gd, 0, none⟩) l0.length cd) (.slice (some ⟨gm, 0, none⟩) l1.length cm) (.slice A2 l2.length c2) r4 a4 ∧ Ym w' (w.heap.size + 1) (.slice none 0 0) (.slice none 0 0) (.slice none 0 0) 0 false ∧ Below w0.heap.size w0 w' ∧ Kept w w' (PE PD PM (.slice A2 l2.length c2))) ⟨⟨Kd.XN (Kd.Zv HQ.out) (fun j hj => ⟨hj.1, hj.2.2.1⟩), Kd.Fa E6.out.m KK (fun j hj e_ => E6.out.dm gd hPg (e_ ▸ hj)), Kd.Fa E6.out.l KK (fun j hj e_ => (E6.out.pd gd hPg).2 (e_ ▸ hj)), fun j hj => ⟨hj.2, ?_⟩, fun j hj => ⟨Nat.lt_of_lt_of_le (E6.out.pm j hj).1 KK.1, (E6.out.pm j hj).2⟩, fun j hj hp => ?_⟩, BE6.out.kept KK (by omega), BQ6.out.kept KK (by omega), Xc (Xc (Xc LB6.out hgdb) hgdb) hgdb, LK6.out.Dk KK (fun j hj => .inl (hj ▸ .inl hPg))⟩ ?_
  · rcases hj.1 with h_ | h_
    · exact (E6.out.pd j h_).2
    · intro e_
      have h1 := EL4.out j (.inr (.inr e_)); omega
  · rcases hj.1 with h_ | h_
    · exact E6.out.dm j h_ hp
    · have h1 := EL4.out j (.inr (.inl hp))
      omega
  have hn5 := zz hn4.out; clear hn4 hb4 EL4 KK HQ E6 BE6 BQ6 LB6 LK6 RV k0 k1 k2 hx0 hx1 hx2 hf0 hf1 hf2 hHeld; rintro w7 ⟨hE1, hBE, hBQ, hLB, hLK⟩; have E7 := zz hE1; have BE := zz hBE; have BQ := zz hBQ; have LB := zz hLB; have LK := zz hLK; clear hE1 hBE hBQ hLB hLK; obtain ⟨x0, x1, x2, x3, x4⟩ := BE.out.cells; obtain ⟨y0, y1, y2, y3, y4⟩ := BQ.out.cells; obtain ⟨f0, f1, f2, f3, f4⟩ := BQ.out.XC
  go_wp2
  have nQ7 : ¬ PE (fun j => (PD j ∨ w4.heap.size ≤ j) ∧ j < w7.heap.size) PM (.slice A2 l2.length c2) (w.heap.size + 1) := by
    rintro (h_ | h_ | h_)
    · rcases h_.1 with h1 | h1
      · exact nQ (.inl h1)
      · have := hq4.out; omega
    · exact nQ (.inr (.inl h_))
    · exact nQ (.inr (.inr h_))
  refine bodyPost_ret (v := .agg #[.slice (some ⟨gd, 0, none⟩) l0.length cd, .slice (some ⟨gm, 0, none⟩) l1.length cm, .slice A2 l2.length c2, .int .i64 r4, .bool a4]) (by simp [results, Try.results137, go_sem, *]) rfl ⟨some ⟨gd, 0, none⟩, cd, some ⟨gm, 0, none⟩, cm, A2, c2, by rw [List.length_set], (fun j => (PD j ∨ w4.heap.size ≤ j) ∧ j < w7.heap.size), PM, ?_, ?_, ?_, ?_⟩
  · rw [List.length_set]
    exact E7.out.Jj nQ7
  · rintro j (h_ | h_ | h_)
    · rcases h_.1 with h1 | h1
      · exact .inl (.inl h1)
      · exact .inr (Nat.le_trans hn5.out h1)
    · exact .inl (.inr (.inl h_))
    · exact .inl (.inr (.inr h_))
  · exact Xc (Xc (Xc (Xc (Xc LB.out (HZ1.out)) HZ1.out) HZ1.out) HZ1.out) HZ1.out
  · exact ((((LK.out.setCell (p := ⟨w.heap.size + 1, 0, none⟩) (.inr (Nat.le_succ _)) _).setCell (p := ⟨w.heap.size + 1, 1, none⟩) (.inr (Nat.le_succ _)) _).setCell (p := ⟨w.heap.size + 1, 2, none⟩) (.inr (Nat.le_succ _)) _).setCell (p := ⟨w.heap.size + 1, 3, none⟩) (.inr (Nat.le_succ _)) _).setCell (p := ⟨w.heap.size + 1, 4, none⟩) (.inr (Nat.le_succ _)) _
end Go.Proofs.Ytcefiblpnegepaa.Pr
