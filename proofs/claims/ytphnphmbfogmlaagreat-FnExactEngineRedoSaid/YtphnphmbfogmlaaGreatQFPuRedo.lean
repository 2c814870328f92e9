import Derived.Test.YtphnphmbfogmlaaGreatQFByq
import Derived.Test.YtphnphmbfogmlaaGreatQFMarkE
import Derived.Test.YtphnphmbfogmlaaGreatQFPrHP
import Derived.Test.YtphnphmbfogmlaaGreatQFEngP
import Derived.Test.YtphnphmbfogmlaaGreatQFRedoC
import Derived.Test.YtphnphmbfogmlaaGreatQFFrE
import Derived.Test.YtphnphmbfogmlaaGreatQFToE
namespace Go.Proofs.YtphnphmbfogmlaaGreat.Pr
open Go.RowKit Go.PW Go.PL Go.PM
attribute [local go_sem] Y3 Y4 YN YO Ya Yb Y5 Y6
set_option linter.unusedVariables false
set_option linter.unusedSimpArgs false
def ZH.T10 : Bool × List (List Nat × List Nat) := (true, [([], []), ([], []), ([1], [1]), ([0, 2, 2], [0, 2]), ([3], [3])])
def ZH.B10 : List Nat := [0, 0, 2, 7, 15]
theorem ZH.Tk : JH .any (opsOf Tryz.f6 10) = ZH.T10 := by kernel_rfl
theorem ZH.NA : Z4 ZH.T10.2 ZH.B10 = true := by kernel_rfl
set_option maxHeartbeats 8000000 in
set_option maxRecDepth 100000 in
theorem ZH (k : Nat) (A0 : Option Addr) (D : List S73) (c0 : Nat) (A1 : Option Addr) (M : List S73) (c1 : Nat) (A2 : Option Addr) (L : List S78) (c2 : Nat) (s : Int) (d : Bool) (X Y : List S56) (Z : List S76) (o o' : List S56) (r q a0 a1 : Int) (m0 m1 : List S56) (w : World) (e0 : D.length ≤ c0 ∧ Kd.C k73 w A0 D.length D) (e1 : M.length ≤ c1 ∧ Kd.C k73 w A1 M.length M) (e2 : L.length ≤ c2 ∧ Kd.C k78 w A2 L.length L)
 (hsz : ZG.f k D M L s d 1048576 = some r) (hr : 0 ≤ r) (hX : Y1.f k D = some X) (hY : Y1.f k M = some Y) (hZ : YW.f k L = some Z)
 (hs : JS.f k X Y Z s d = some o) (hi : JA.f k X Y Z s d = some o) (hq : Xw.f k o o = some true) (he : JF.f k X Y Z s d X Y Z s d = some true)
 (hm0 : XW.f k X 1 = some (a0, m0)) (hm1 : XW.f k Y a0 = some (a1, m1)) (hm2 : 0 ≤ a1 ∧ a1 + 8 * (Z.length : Int) ≤ 4398046511104)
 (hm : XW.f k o 1 = some (q, o')) (hh : YS.f k o' 1 = some q) (hq0 : 0 ≤ q) :
 Calls Tryz.prog 6 #[.agg #[.slice A0 D.length c0, .slice A1 M.length c1, .slice A2 L.length c2, .int .i64 s, .bool d]] w fun e w' => e = .returned (.bool true) ∧ Below w.heap.size w w' := by
 have hu25 := Tryz.underlying25; have hu31 := Tryz.underlying31; have E0 := zz e0; have E1 := zz e1; have E2 := zz e2; have HSZ := zz hsz; have HX := zz hX; have HY := zz hY; have HZ := zz hZ; have HS := zz hs; have HI := zz hi; have HQ := zz hq; have HE := zz he; have HM0 := zz hm0; have HM1 := zz hm1; have HM2 := zz hm2; have HM := zz hm; have HH := zz hh; clear e0 e1 e2 hsz hX hY hZ hs hi hq he hm0 hm1 hm2 hm hh; have hr' : decide (r < 0) = false := decide_eq_false (by omega); have hq' : decide (q < 0) = false := decide_eq_false (by omega); have ha' : decide (a1 + 8 * (Z.length : Int) < 0) = false := decide_eq_false (by have := HM2.out.1; omega)
 have hqq : (q != q) = false := by simp
 clear hr hq0
 go_enter Tryz.func6, Tryz.ntmps6
 go_wp2_with fail
 have hb0 := Xj (Below.refl w.heap.size w) (.cells #[.slice A0 D.length c0, .slice A1 M.length c1, .slice A2 L.length c2, .int .i64 s, .bool d] 25); have y0 := Jq w (.cells #[.slice A0 D.length c0, .slice A1 M.length c1, .slice A2 L.length c2, .int .i64 s, .bool d] 25); refine (ZG.calls k A0 c0 D A1 c1 M A2 c2 L s d 1048576 r _ (Kd.Xg E0.out.2 hb0) E0.out.1 (Kd.Xg E1.out.2 hb0) E1.out.1 (Kd.Xg E2.out.2 hb0) E2.out.1 HSZ.out).mono ?_; rintro e w1 ⟨rfl, hb⟩; have B1 := zz (Xk y0 hb); have HB := zz (Xc hb0 hb); clear hb hb0 y0; have b1_0 : w1.cell? ⟨w.heap.size, 0, none⟩ = some (.slice A0 D.length c0) := (Xd B1.out 0).trans rfl; have b1_1 : w1.cell? ⟨w.heap.size, 1, none⟩ = some (.slice A1 M.length c1) := (Xd B1.out 1).trans rfl; have b1_2 : w1.cell? ⟨w.heap.size, 2, none⟩ = some (.slice A2 L.length c2) := (Xd B1.out 2).trans rfl; have b1_3 : w1.cell? ⟨w.heap.size, 3, none⟩ = some (.int .i64 s) := (Xd B1.out 3).trans rfl; have b1_4 : w1.cell? ⟨w.heap.size, 4, none⟩ = some (.bool d) := (Xd B1.out 4).trans rfl
 go_wp2_with fail
 refine (NH k A0 c0 D A1 c1 M A2 c2 L s d X Y Z w1 ⟨E0.out.1, Kd.Xg E0.out.2 HB.out⟩ ⟨E1.out.1, Kd.Xg E1.out.2 HB.out⟩ ⟨E2.out.1, Kd.Xg E2.out.2 HB.out⟩ HX.out HY.out HZ.out).mono ?_; rintro e w2 ⟨v0, v1, v2, m, n, rfl, hS0, hS1, hS2, hmn, hb⟩; obtain ⟨N0, n0, rfl⟩ := Kd.ZR hS0; obtain ⟨N1, n1, rfl⟩ := Kd.ZR hS1; obtain ⟨N2, n2, rfl⟩ := Kd.Y2 hS2; have F0 := zz (Kd.YL hS0).2; have F1 := zz (Kd.YL hS1).2; have F2 := zz (Kd.X6 hS2).2; replace B1 := zz (Xk B1.out hb); replace HB := zz (Xc HB.out hb); clear hS0 hS1 hS2 hmn hb m n; clear b1_0 b1_1 b1_2 b1_3 b1_4
 go_wp2_with fail
 refine (JS.calls k N0 n0 X N1 n1 Y N2 n2 Z s d o w2 F0.out.2 F0.out.1 F1.out.2 F1.out.1 F2.out.2 F2.out.1 HS.out).mono ?_; rintro e w3 ⟨u, rfl, hU, hb⟩; obtain ⟨U, cu, rfl⟩ := Kd.Y2 hU; replace B1 := zz (Xk B1.out hb); have H03 := zz (Z5 B1.out); have UO := zz (Kd.XZ (Kd.YY (Kd.ZQ hU) HB.out.size) (ok' := fun j => j < w3.heap.size) (fun j hj => hj.2.2.1)); replace HB := zz (Xc HB.out hb); clear hU hb F0 F1 F2; have b1_0 : w3.cell? ⟨w.heap.size, 0, none⟩ = some (.slice A0 D.length c0) := (Xd B1.out 0).trans rfl; have b1_1 : w3.cell? ⟨w.heap.size, 1, none⟩ = some (.slice A1 M.length c1) := (Xd B1.out 1).trans rfl; have b1_2 : w3.cell? ⟨w.heap.size, 2, none⟩ = some (.slice A2 L.length c2) := (Xd B1.out 2).trans rfl; have b1_3 : w3.cell? ⟨w.heap.size, 3, none⟩ = some (.int .i64 s) := (Xd B1.out 3).trans rfl; have b1_4 : w3.cell? ⟨w.heap.size, 4, none⟩ = some (.bool d) := (Xd B1.out 4).trans rfl
 go_wp2_with fail
 refine (NH k A0 c0 D A1 c1 M A2 c2 L s d X Y Z w3 ⟨E0.out.1, Kd.Xg E0.out.2 HB.out⟩ ⟨E1.out.1, Kd.Xg E1.out.2 HB.out⟩ ⟨E2.out.1, Kd.Xg E2.out.2 HB.out⟩ HX.out HY.out HZ.out).mono ?_; rintro e w4 ⟨v0, v1, v2, m, n, rfl, hS0, hS1, hS2, hmn, hb⟩; obtain ⟨P0, p0, rfl⟩ := Kd.ZR hS0; obtain ⟨P1, p1, rfl⟩ := Kd.ZR hS1; obtain ⟨P2, p2, rfl⟩ := Kd.Y2 hS2; have EM := zz (TF.of hS0 hS1 hS2 HB.out.size); replace B1 := zz (Xk B1.out hb); replace UO := zz (Kd.Xr UO.out hb); have h34 := zz hb.size; replace HB := zz (Xc HB.out hb); have HMN := zz hmn; clear hS0 hS1 hS2 hmn hb; clear b1_0 b1_1 b1_2 b1_3 b1_4
 go_wp2_with fail
 have hb0 := Xj (Below.refl w4.heap.size w4) (.cells #[.slice P0 X.length p0, .slice P1 Y.length p1, .slice P2 Z.length p2, .int .i64 s, .bool d] 31); have y0 := Jq w4 (.cells #[.slice P0 X.length p0, .slice P1 Y.length p1, .slice P2 Z.length p2, .int .i64 s, .bool d] 31); replace EM := zz (EM.out.below hb0); have EC := EM.out.reads; refine (JA.calls k P0 p0 X P1 p1 Y P2 p2 Z s d o _ EC.1.2 EC.1.1 EC.2.1.2 EC.2.1.1 EC.2.2.2 EC.2.2.1 HI.out).mono ?_; rintro e w5 ⟨g, rfl, hG, hb⟩; obtain ⟨G, cg, rfl⟩ := Kd.ZR hG; clear EC; have GO := zz (Kd.J3 (Kd.Uk (Kd.MH hG) (Nat.le_trans HB.out.size hb0.size)) (ok' := fun j => w4.heap.size < j ∧ j < w5.heap.size) (fun j hj => ⟨by have := hj.2.1; simp at this; omega, hj.2.2.1⟩)); replace B1 := zz (Xk (Xk B1.out hb0) hb); replace UO := zz (Kd.Xr (Kd.Xr UO.out hb0) hb); replace EM := zz (EM.out.below hb); have X2 := zz (Xk y0 hb); replace HB := zz (Xc (Xc HB.out hb0) hb); have hlt := Z5 X2.out; clear hG hb hb0 y0
 go_wp2_with fail
 refine (Xw.calls k G cg o U cu o true _ (Kd.YL GO.out).2.2 (Kd.YL GO.out).2.1 (Kd.X6 UO.out).2.2 (Kd.X6 UO.out).2.1 HQ.out).mono ?_; rintro e w6 ⟨rfl, hb⟩; replace B1 := zz (Xk B1.out hb); replace UO := zz (Kd.Xr UO.out hb); replace EM := zz (EM.out.below hb); replace X2 := zz (Xk X2.out hb); replace GO := zz (Kd.ZO GO.out hb); replace HB := zz (Xc HB.out hb); clear hb
 go_wp2_with fail
 replace HB := zz (Jh HB.out); replace B1 := zz (XB B1.out); replace UO := zz (Kd.YC UO.out); replace EM := zz (EM.out.drew); replace X2 := zz (XB X2.out); replace GO := zz (Kd.JO GO.out); refine Yw (n := 5) (S := fun w' => w'.heap[w4.heap.size]? = some (.cells #[.slice P0 X.length p0, .slice P1 Y.length p1, .slice P2 Z.length p2, .int .i64 s, .bool d] 31 (0, 0)) ∧ w'.heap[w.heap.size]? = some (.cells #[.slice A0 D.length c0, .slice A1 M.length c1, .slice A2 L.length c2, .int .i64 s, .bool d] 25 (0, 0))) (ds := []) #[false, false, false, false, false] zb6 rfl rfl ⟨X2.out, B1.out⟩ (fun hHeld => ?_); refine XH ZH.Tk ZH.NA (fun HT_ HW_ => ?_); generalize w6.drew = w7 at HB B1 UO EM X2 GO hHeld ⊢; refine NI (i := 0) (N := some 27) (v := ?_) (a' := ?_) #[true, false, false, false, false] rfl rfl (FQ HT_.out HW_.out zb6) (fun _ _ _ h => h) (Or.inl ⟨by rfl, ?_⟩) hHeld ?_ ?_; rotate_left
 ·rintro w' ⟨s0, s1⟩
  have c0 : w'.cell? ⟨w4.heap.size, 0, none⟩ = some (.slice P0 X.length p0) := (Xd s0 0).trans rfl; have c1 : w'.cell? ⟨w4.heap.size, 1, none⟩ = some (.slice P1 Y.length p1) := (Xd s0 1).trans rfl; have c2 : w'.cell? ⟨w4.heap.size, 2, none⟩ = some (.slice P2 Z.length p2) := (Xd s0 2).trans rfl; have c3 : w'.cell? ⟨w4.heap.size, 3, none⟩ = some (.int .i64 s) := (Xd s0 3).trans rfl; have c4 : w'.cell? ⟨w4.heap.size, 4, none⟩ = some (.bool d) := (Xd s0 4).trans rfl; clear s0 s1
  go_simp
  with_reducible rfl
 rotate_left
 ·simp only [Act.put, List.setIfInBounds_toArray, List.set_cons_zero, List.set_cons_succ, Xz, XF]
  rfl
 refine NI (i := 1) (N := some 28) (v := ?_) (a' := ?_) #[true, true, false, false, false] rfl rfl (FQ HT_.out HW_.out zb6) (fun _ _ _ h => h) (Or.inl ⟨by rfl, ?_⟩) hHeld ?_ ?_; rotate_left
 ·rintro w' ⟨s0, s1⟩
  have c0 : w'.cell? ⟨w.heap.size, 0, none⟩ = some (.slice A0 D.length c0) := (Xd s1 0).trans rfl; have c1 : w'.cell? ⟨w.heap.size, 1, none⟩ = some (.slice A1 M.length c1) := (Xd s1 1).trans rfl; have c2 : w'.cell? ⟨w.heap.size, 2, none⟩ = some (.slice A2 L.length c2) := (Xd s1 2).trans rfl; have c3 : w'.cell? ⟨w.heap.size, 3, none⟩ = some (.int .i64 s) := (Xd s1 3).trans rfl; have c4 : w'.cell? ⟨w.heap.size, 4, none⟩ = some (.bool d) := (Xd s1 4).trans rfl; clear s0 s1
  go_simp
  with_reducible rfl
 rotate_left
 ·simp only [Act.put, List.setIfInBounds_toArray, List.set_cons_zero, List.set_cons_succ, Xz, XF]
  rfl
 refine Zj (i := 2) (N := some 29) #[true, true, true, false, false] rfl rfl (Yl HT_.out zb6) (by decide) (fun K hK => ?_); refine YI Tryz.func10 zb6 rfl #[.agg #[.slice A0 D.length c0, .slice A1 M.length c1, .slice A2 L.length c2, .int .i64 s, .bool d]] (by rfl) rfl rfl zb2 ?_
 with_reducible refine (NH k A0 c0 D A1 c1 M A2 c2 L s d X Y Z w7 ⟨E0.out.1, Kd.Xg E0.out.2 HB.out⟩ ⟨E1.out.1, Kd.Xg E1.out.2 HB.out⟩ ⟨E2.out.1, Kd.Xg E2.out.2 HB.out⟩ HX.out HY.out HZ.out).mono ?_
 rintro e w8 ⟨v0, v1, v2, m', n', rfl, hS0, hS1, hS2, hmn, hb⟩; obtain ⟨Q0, q0, rfl⟩ := Kd.ZR hS0; obtain ⟨Q1, q1, rfl⟩ := Kd.ZR hS1; obtain ⟨Q2, q2, rfl⟩ := Kd.Y2 hS2; refine ⟨_, rfl, ?_⟩; have F0 := zz (Kd.YL hS0).2; have F1 := zz (Kd.YL hS1).2; have F2 := zz (Kd.X6 hS2).2; replace B1 := zz (Xk B1.out hb); replace UO := zz (Kd.Xr UO.out hb); replace EM := zz (EM.out.below hb); replace X2 := zz (Xk X2.out hb); replace GO := zz (Kd.ZO GO.out hb); replace HB := zz (Xc HB.out hb); clear hS0 hS1 hS2 hmn hb m' n' hHeld; refine hK.out _ _ ⟨X2.out, B1.out⟩ (fun hHeld => ?_); clear hK K; refine XQ (a' := ?_) ?_ ?_; rotate_left
 ·show Act.put _ (some 29) _ = _
  simp only [Act.put, List.setIfInBounds_toArray, List.set_cons_zero, List.set_cons_succ, Xz, XF]
  rfl
 refine Zj (i := 3) (N := some 30) #[true, true, true, true, false] rfl rfl (Yl HT_.out zb6) (by decide) (fun K hK => ?_); refine YI Tryz.func12 zb6 rfl #[.agg #[.slice P0 X.length p0, .slice P1 Y.length p1, .slice P2 Z.length p2, .int .i64 s, .bool d], .agg #[.slice Q0 X.length q0, .slice Q1 Y.length q1, .slice Q2 Z.length q2, .int .i64 s, .bool d]] (by rfl) rfl rfl zb2 ?_
 with_reducible refine (JF.calls k P0 p0 X P1 p1 Y P2 p2 Z s d Q0 q0 X Q1 q1 Y Q2 q2 Z s d true w8 EM.out.reads.1.2 EM.out.reads.1.1 EM.out.reads.2.1.2 EM.out.reads.2.1.1 EM.out.reads.2.2.2 EM.out.reads.2.2.1 F0.out.2 F0.out.1 F1.out.2 F1.out.1 F2.out.2 F2.out.1 HE.out).mono ?_
 rintro e w9 ⟨rfl, hb⟩; refine ⟨_, rfl, ?_⟩; replace B1 := zz (Xk B1.out hb); replace UO := zz (Kd.Xr UO.out hb); replace EM := zz (EM.out.below hb); replace X2 := zz (Xk X2.out hb); replace GO := zz (Kd.ZO GO.out hb); replace HB := zz (Xc HB.out hb); clear hb F0 F1 F2 hHeld; refine hK.out _ _ ⟨X2.out, B1.out⟩ (fun hHeld => ?_); clear hK K; refine XQ (a' := ?_) ?_ ?_; rotate_left
 ·show Act.put _ (some 30) _ = _
  simp only [Act.put, List.setIfInBounds_toArray, List.set_cons_zero, List.set_cons_succ, Xz, XF]
  rfl
 refine MO (i := 4) (N := some 31) (v := ?_) (a' := ?_) #[true, true, true, true, true] rfl rfl (NJ HT_.out zb6) (fun _ _ _ h => h) (Or.inl ⟨by rfl, ?_⟩) ?_ ?_; rotate_left
 ·intro w'
  go_simp
  with_reducible rfl
 rotate_left
 ·simp only [Act.put, List.setIfInBounds_toArray, List.set_cons_zero, List.set_cons_succ, Xz, XF]
  rfl
 refine YX (YA HT_.out zb6) ?_; have b2_0 : w9.cell? ⟨w4.heap.size, 0, none⟩ = some (.slice P0 X.length p0) := (Xd X2.out 0).trans rfl; have b2_1 : w9.cell? ⟨w4.heap.size, 1, none⟩ = some (.slice P1 Y.length p1) := (Xd X2.out 1).trans rfl; have b2_2 : w9.cell? ⟨w4.heap.size, 2, none⟩ = some (.slice P2 Z.length p2) := (Xd X2.out 2).trans rfl; have b2_3 : w9.cell? ⟨w4.heap.size, 3, none⟩ = some (.int .i64 s) := (Xd X2.out 3).trans rfl; have b2_4 : w9.cell? ⟨w4.heap.size, 4, none⟩ = some (.bool d) := (Xd X2.out 4).trans rfl
 go_wp2_with fail
 refine (MP.calls k _ _ _ (.slice P0 X.length p0) (.slice P1 Y.length p1) (.slice P2 Z.length p2) X Y Z s d 1 a0 a1 m0 m1 w w9 HB.out EM.out.s0 EM.out.s1 EM.out.s2 (fun j hj => Nat.lt_trans hj.2.1 (Z5 X2.out)) (fun j hj => Nat.lt_trans hj.2.1 (Z5 X2.out)) (fun j hj => Nat.lt_trans hj.2.1 (Z5 X2.out)) (fun j h h' => by have := h.2.2; have := h'.2.2.1; omega) (fun j h h' => by have := h.2.2; have := h'.2.2; have := HMN.out; omega) (fun j h h' => by have := h.2.2.2; have := h'.2.2; omega) HM0.out HM1.out HM2.out).mono ?_; rintro e w10 ⟨rfl, hb, hk⟩; clear b2_0 b2_1 b2_2 b2_3 b2_4; have hk' := hk.mono (S' := fun j => w3.heap.size ≤ j ∧ j < w4.heap.size) (fun j hj => by rcases hj with h | h | h <;> exact ⟨h.1, h.2.1⟩); have h03 : w.heap.size < w3.heap.size := H03.out; replace B1 := zz (Uy B1.out hk' (fun h => by have := h.1; omega)); replace UO := zz (Kd.UY UO.out hk' (fun j hj h => by have := h.1; omega)); replace GO := zz (Kd.XmQ GO.out hk' (fun j hj h => by have := hj.1; have := h.2; omega)); replace HB := zz hb; have H45 := zz (Z5 X2.out); clear hb hk hk' EM X2 h03
 go_wp2_with fail
 refine (Xw.calls k G cg o U cu o true _ (Kd.YL GO.out).2.2 (Kd.YL GO.out).2.1 (Kd.X6 UO.out).2.2 (Kd.X6 UO.out).2.1 HQ.out).mono ?_; rintro e w11 ⟨rfl, hb⟩; replace B1 := zz (Xk B1.out hb); replace UO := zz (Kd.Xr UO.out hb); replace GO := zz (Kd.ZO GO.out hb); replace HB := zz (Xc HB.out hb); clear hb
 go_wp2_with fail
 refine (XW.calls k _ (.slice G o.length cg) o 1 q o' w w11 HB.out GO.out HM.out).mono ?_; rintro e w12 ⟨rfl, hg, hb, hk⟩; have GM := zz (Kd.J3 hg (ok' := fun _ => True) (fun _ _ => trivial)); replace B1 := zz (Uy B1.out hk (fun h => by have := h.1; have := H03.out; have := h34.out; omega)); replace UO := zz (Kd.UY UO.out hk (fun j hj h => by have := h.1; have := h34.out; omega)); replace HB := zz hb; clear hg hb hk GO; have hlo := zz (Kd.YL GM.out).1
 go_wp2_with fail
 rw [show (Value.slice G o.length cg) = .slice G o'.length cg from by rw [hlo.out]]; refine (YS.calls k G cg o' 1 q _ (Kd.YL GM.out).2.2 (by rw [← hlo.out]; exact (Kd.YL GM.out).2.1) HH.out).mono ?_; rintro e w13 ⟨rfl, hb⟩; replace hb := hb.below; replace B1 := zz (Xk B1.out hb); replace UO := zz (Kd.Xr UO.out hb); replace GM := zz (Kd.ZO GM.out hb); replace HB := zz (Xc HB.out hb); clear hb; have b1_0 : w13.cell? ⟨w.heap.size, 0, none⟩ = some (.slice A0 D.length c0) := (Xd B1.out 0).trans rfl; have b1_1 : w13.cell? ⟨w.heap.size, 1, none⟩ = some (.slice A1 M.length c1) := (Xd B1.out 1).trans rfl; have b1_2 : w13.cell? ⟨w.heap.size, 2, none⟩ = some (.slice A2 L.length c2) := (Xd B1.out 2).trans rfl; have b1_3 : w13.cell? ⟨w.heap.size, 3, none⟩ = some (.int .i64 s) := (Xd B1.out 3).trans rfl; have b1_4 : w13.cell? ⟨w.heap.size, 4, none⟩ = some (.bool d) := (Xd B1.out 4).trans rfl
 go_wp2_with fail
 refine (NH k A0 c0 D A1 c1 M A2 c2 L s d X Y Z w13 ⟨E0.out.1, Kd.Xg E0.out.2 HB.out⟩ ⟨E1.out.1, Kd.Xg E1.out.2 HB.out⟩ ⟨E2.out.1, Kd.Xg E2.out.2 HB.out⟩ HX.out HY.out HZ.out).mono ?_; rintro e w14 ⟨v0, v1, v2, m', n', rfl, hS0, hS1, hS2, hmn, hb⟩; obtain ⟨Q0, q0, rfl⟩ := Kd.ZR hS0; obtain ⟨Q1, q1, rfl⟩ := Kd.ZR hS1; obtain ⟨Q2, q2, rfl⟩ := Kd.Y2 hS2; have F0 := zz (Kd.YL hS0).2; have F1 := zz (Kd.YL hS1).2; have F2 := zz (Kd.X6 hS2).2; replace UO := zz (Kd.Xr UO.out hb); replace GM := zz (Kd.ZO GM.out hb); replace HB := zz (Xc HB.out hb); clear hS0 hS1 hS2 hmn hb m' n' B1; clear b1_0 b1_1 b1_2 b1_3 b1_4
 go_wp2_with fail
 refine (JA.calls k Q0 q0 X Q1 q1 Y Q2 q2 Z s d o w14 F0.out.2 F0.out.1 F1.out.2 F1.out.1 F2.out.2 F2.out.1 HI.out).mono ?_; rintro e w15 ⟨g, rfl, hG, hb⟩; obtain ⟨J, cj, rfl⟩ := Kd.ZR hG; have HO := zz hG; replace UO := zz (Kd.Xr UO.out hb); replace GM := zz (Kd.ZO GM.out hb); replace HB := zz (Xc HB.out hb); clear hG hb F0 F1 F2
 go_wp2_with fail
 refine (Xw.calls k J cj o U cu o true _ (Kd.YL HO.out).2.2 (Kd.YL HO.out).2.1 (Kd.X6 UO.out).2.2 (Kd.X6 UO.out).2.1 HQ.out).mono ?_; rintro e w16 ⟨rfl, hb⟩; replace GM := zz (Kd.ZO GM.out hb); replace HB := zz (Xc HB.out hb); clear hb HO UO
 go_wp2_with fail
 refine (YS.calls k G cg o' 1 q _ (Kd.YL GM.out).2.2 (by rw [← hlo.out]; exact (Kd.YL GM.out).2.1) HH.out).mono ?_; rintro e w17 ⟨rfl, hb⟩; replace hb := hb.below; replace HB := zz (Xc HB.out hb); clear hb
 go_wp2
 go_ret
 exact ⟨rfl, HB.out⟩
set_option maxHeartbeats 8000000 in
set_option maxRecDepth 100000 in
theorem Es (k : Nat) (A0 : Option Addr) (D : List S73) (c0 : Nat) (A1 : Option Addr) (M : List S73) (c1 : Nat) (A2 : Option Addr) (L : List S78) (c2 : Nat) (s : Int) (d : Bool) (r : Int) (w : World) (e0 : D.length ≤ c0 ∧ Kd.C k73 w A0 D.length D) (e1 : M.length ≤ c1 ∧ Kd.C k73 w A1 M.length M) (e2 : L.length ≤ c2 ∧ Kd.C k78 w A2 L.length L)
 (hsz : ZG.f k D M L s d 1048576 = some r) (hr : r < 0) :
 Calls Tryz.prog 6 #[.agg #[.slice A0 D.length c0, .slice A1 M.length c1, .slice A2 L.length c2, .int .i64 s, .bool d]] w fun e w' => e = .returned (.bool true) ∧ Below w.heap.size w w' := by
 have hu25 := Tryz.underlying25; have E0 := zz e0; have E1 := zz e1; have E2 := zz e2; have HSZ := zz hsz; clear e0 e1 e2 hsz; have hr' : decide (r < 0) = true := decide_eq_true hr; clear hr
 go_enter Tryz.func6, Tryz.ntmps6
 go_wp2_with fail
 have hb0 := Xj (Below.refl w.heap.size w) (.cells #[.slice A0 D.length c0, .slice A1 M.length c1, .slice A2 L.length c2, .int .i64 s, .bool d] 25); refine (ZG.calls k A0 c0 D A1 c1 M A2 c2 L s d 1048576 r _ (Kd.Xg E0.out.2 hb0) E0.out.1 (Kd.Xg E1.out.2 hb0) E1.out.1 (Kd.Xg E2.out.2 hb0) E2.out.1 HSZ.out).mono ?_; rintro e w1 ⟨rfl, hb⟩; have HB := zz (Xc hb0 hb); clear hb hb0
 go_wp2
 go_ret
 exact ⟨rfl, HB.out⟩
end Go.Proofs.YtphnphmbfogmlaaGreat.Pr
namespace Go.Proofs.YtphnphmbfogmlaaGreat.T
open Go.RowKit Go.PW Go.Proofs.YtphnphmbfogmlaaGreat.Pr
set_option linter.unusedSimpArgs false
set_option linter.unusedVariables false
theorem NT {D M : List Pg} {L : List Rc} {s : Int} {d : Bool} (h : Jm D M L s d = true) : V3 D ∧ YP L = true := by
 by_cases hd : Ji D = true
 ·by_cases hm : YP L = true
  ·exact ⟨Uv hd, hm⟩
  ·have hh : Vr D M L s = false := by
    unfold Vr
    rw [Bool.eq_false_iff.mpr hm]
    simp
   rw [JY hh] at h; exact absurd h (by simp)
 ·have hh : Vr D M L s = false := by
   unfold Vr
   rw [Bool.eq_false_iff.mpr hd]
   simp
  rw [JY hh] at h; exact absurd h (by simp)
theorem Xr6 {D : List Pg} (h : V3 D) : ∀ p ∈ D, p.f2.length ≤ 1048576 := by
 intro p hp; obtain ⟨j, hj, rfl⟩ := List.getElem_of_mem hp; have h5 := h.len; have : (Xb D (j : Int)).f2.length = 3 := h.ok (j : Int) (by omega) (by omega); rw [show Xb D (j : Int) = D[j] from by simp [Xb, List.getD_eq_getElem?_getD, List.getElem?_eq_getElem hj]] at this; omega
def Oq (D M : List Pg) (L : List Rc) (s : Int) (d : Bool) : List Pg := if Jm D M L s d = true then XE D L else []
theorem Xly (D M : List Pg) (L : List Rc) (s : Int) (d : Bool) : (Oq D M L s d).length ≤ 1048576 ∧ ∀ p ∈ Oq D M L s d, p.f2.length ≤ 1048576 := by
 unfold Oq
 by_cases h : Jm D M L s d = true
 ·rw [if_pos h]
  obtain ⟨h1, h2⟩ := NT h; have h3 := Uw h1 h2; exact ⟨by have := h3.len; omega, Xr6 h3⟩
 ·rw [if_neg h]
  exact ⟨by simp, fun p hp => by simp at hp⟩
theorem MJ (A0 : Option Addr) (D : List S73) (c0 : Nat) (A1 : Option Addr) (M : List S73) (c1 : Nat) (A2 : Option Addr) (L : List S78) (c2 : Nat) (s : Int) (d : Bool) (w : World) (e0 : D.length ≤ c0 ∧ Kd.C k73 w A0 D.length D) (e1 : M.length ≤ c1 ∧ Kd.C k73 w A1 M.length M) (e2 : L.length ≤ c2 ∧ Kd.C k78 w A2 L.length L) :
 Calls Tryz.prog 6 #[.agg #[.slice A0 D.length c0, .slice A1 M.length c1, .slice A2 L.length c2, .int .i64 s, .bool d]] w fun e w' => e = .returned (.bool true) ∧ Below w.heap.size w w' := by
 have H := Xd9 e0 e1 e2
 obtain ⟨k, hk⟩ : ∃ k : Nat, D.length + M.length + 16777217 < k := ⟨_, Nat.lt_succ_self _⟩
 obtain ⟨r, e, h⟩ := BN D M L s d H.d H.dv H.m H.mv H.l k (by omega)
 rcases h with h | ⟨h, F⟩
 ·exact Es k A0 D c0 A1 M c1 A2 L c2 s d r w e0 e1 e2 e h
 ·have hL := F.l
  have hD := F.d; have hM := F.m; obtain ⟨ho, hov⟩ := Xly (D.map cp) (M.map cp) (L.map cv) s d; obtain ⟨a0, a1, m0, m1, p0, p1, p2⟩ := Qw (D.map cp) (M.map cp) (L.map cv) (by simpa using hD) (N9 F.dv) (by simpa using hM) (N9 F.mv) (by simpa using hL) k (by omega); obtain ⟨q, o', q1, q3, _, _, q2⟩ := NK (Oq (D.map cp) (M.map cp) (L.map cv) s d) ho hov 1 (by omega) (by omega) k (by omega); refine ZH k A0 D c0 A1 M c1 A2 L c2 s d (D.map cp) (M.map cp) (L.map cv) (Oq (D.map cp) (M.map cp) (L.map cv) s d) o' r q a0 a1 m0 m1 w e0 e1 e2 e h (Sq D F.d F.dv k (by omega)) (Sq M F.m F.mv k (by omega)) (Xdo L (by omega) k (by omega)) ?_ ?_ (KC _ ho hov k (by omega)) (BO F s d k (by omega)) p0 p1 p2 q1 q2 (by omega)
  ·unfold JS.f Oq
   rw [Xjo F s d k (by omega), Option.bind_some]
   by_cases hg : Jm (D.map cp) (M.map cp) (L.map cv) s d = true
   ·rw [if_pos hg, if_pos hg, Wz (NT hg).1 (NT hg).2 k (by omega)]
   ·rw [if_neg hg, if_neg hg]
  ·unfold JA.f X3.f Oq
   rw [Option.bind_some]
   by_cases hg : Jm (D.map cp) (M.map cp) (L.map cv) s d = true
   ·rw [if_pos hg, if_pos hg, Wy (NT hg).1 (NT hg).2 k (by omega), Option.bind_some]
   ·rw [if_neg hg, if_neg hg]
end Go.Proofs.YtphnphmbfogmlaaGreat.T
