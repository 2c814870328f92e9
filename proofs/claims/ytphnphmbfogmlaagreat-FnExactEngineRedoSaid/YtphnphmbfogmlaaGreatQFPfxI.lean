import Derived.Test.YtphnphmbfogmlaaGreatQFByq
import Derived.Test.YtphnphmbfogmlaaGreatQFSx
import Derived.Test.YtphnphmbfogmlaaGreatQFPrWith
import Derived.Test.YtphnphmbfogmlaaGreatQFEnI
set_option linter.unusedVariables false
set_option linter.unusedSimpArgs false
namespace Go.Proofs.YtphnphmbfogmlaaGreat.T
def MF (D : List Pg) (L : List Rc) (s : Int) : Bool := (List.range (L.length + 1)).all (fun n => decide ((n : Int) < s) || preB D (L.take n))
theorem Qy {D : List Pg} {L : List Rc} {s : Int} (n : Nat) (hn : n ≤ L.length) (hs : s ≤ (n : Int)) (h : preB D (L.take n) = false) : MF D L s = false := by
 unfold MF
 rw [List.all_eq_false]; exact ⟨n, zb99, by simp [h]; omega⟩
theorem Xf4 {D : List Pg} {L : List Rc} {s : Int} (h1 : ∀ n : Nat, n ≤ L.length → s ≤ (n : Int) → preB D (L.take n) = true) : MF D L s = true := by
 unfold MF
 rw [List.all_eq_true]; intro n hn
 have hn' : n ≤ L.length := by simp at hn; omega
 by_cases hs : (n : Int) < s
 ·simp [hs]
 ·rw [h1 n hn' (by omega)]; simp
end Go.Proofs.YtphnphmbfogmlaaGreat.T
namespace Go.Proofs.YtphnphmbfogmlaaGreat.Pr
open Go.RowKit Go.PW Go.PL Go.PM Go.Proofs.YtphnphmbfogmlaaGreat.T
attribute [local go_sem] Y3 Y4 YN YO Ya Yb Y5 Y6
abbrev mPX0 : Array Bool := #[nn,nn,nn,nn,nn,nn,nn,nn,nn,nn,nn,nn]
abbrev mPX1 : Array Bool := #[yy,nn,nn,nn,nn,nn,nn,nn,nn,nn,nn,nn]
abbrev mPX2 : Array Bool := #[yy,yy,nn,nn,nn,nn,nn,nn,nn,nn,nn,nn]
abbrev mPX3 : Array Bool := #[yy,yy,yy,nn,nn,nn,nn,nn,nn,nn,nn,nn]
abbrev mPX4 : Array Bool := #[yy,yy,yy,yy,nn,nn,nn,nn,nn,nn,nn,nn]
abbrev mPX5 : Array Bool := #[yy,yy,yy,yy,yy,nn,nn,nn,nn,nn,nn,nn]
abbrev mPX6 : Array Bool := #[yy,yy,yy,yy,yy,yy,nn,nn,nn,nn,nn,nn]
abbrev mPX7 : Array Bool := #[yy,yy,yy,yy,yy,yy,yy,nn,nn,nn,nn,nn]
abbrev mPX8 : Array Bool := #[yy,yy,yy,yy,yy,yy,yy,yy,nn,nn,nn,nn]
abbrev mPX9 : Array Bool := #[yy,yy,yy,yy,yy,yy,yy,yy,yy,nn,nn,nn]
abbrev Xwm : Array Bool := #[yy,yy,yy,yy,yy,yy,yy,yy,yy,yy,nn,nn]
abbrev Xwn : Array Bool := #[yy,yy,yy,yy,yy,yy,yy,yy,yy,yy,yy,nn]
abbrev Xwo : Array Bool := #[yy,yy,yy,yy,yy,yy,yy,yy,yy,yy,yy,yy]
def Jj.T4 : Bool × List (List Nat × List Nat) := (true, [([], []), ([0], [0]), ([], []), ([2], [2]), ([], []), ([3, 4], [3, 4]), ([1, 5], [1, 5]), ([6], [6]), ([7], [7]), ([7], [7]), ([8, 6, 0, 1, 2, 3, 4, 5, 6, 7, 8], [8]), ([9, 10, 0, 1, 2, 3, 4, 5, 6, 7, 8, 9, 10], [9])])
def Jj.B4 : List Nat := [0, 1, 0, 4, 0, 28, 63, 127, 255, 255, 511, 2047]
theorem Jj.TE : JH .any (opsOf Tryz.f53 4) = Jj.T4 := by kernel_rfl
theorem Jj.MN : Z4 Jj.T4.2 Jj.B4 = true := by kernel_rfl
set_option maxHeartbeats 8000000 in
set_option maxRecDepth 100000 in
theorem KD (A0 : Option Addr) (c0 : Nat) (D : List S56) (A1 : Option Addr) (c1 : Nat) (M : List S56) (A2 : Option Addr) (c2 : Nat) (L : List S76) (s : Int) (d : Bool) (w : World) (hD : Kd.C k56 w A0 D.length D) (hc0 : D.length ≤ c0) (hL : Kd.C k76 w A2 L.length L) (hc2 : L.length ≤ c2) (hV : V3 D) (hg2 : YP L = true) (hs0 : 0 ≤ s) (hs1 : s ≤ (L.length : Int)) :
 Calls Tryz.prog 53 #[.agg #[.slice A0 D.length c0, .slice A1 M.length c1, .slice A2 L.length c2, .int .i64 s, .bool d]] w fun e w' => e = .returned (.bool (MF D L s)) ∧ Below w.heap.size w w' := by
 have hu31 := Tryz.underlying31; have hlen := ZK hg2; have hG := zz (JB hg2); have HD := zz hD; have HL := zz hL; have HCD := zz hc0; have HCL := zz hc2; have HV := zz hV; clear hD hL hc0 hc2 hV
 go_enter Tryz.func53, Tryz.ntmps53
 go_upto_region 1 with (fail)
 obtain ⟨w5, hw5⟩ : ∃ w5, w.alloc (.cells #[.slice A0 D.length c0, .slice A1 M.length c1, .slice A2 L.length c2, .int .i64 s, .bool d] 31) = w5 := ⟨_, rfl⟩
 have BE5 : Aside0 (U5 w5 w.heap.size (.slice A0 D.length c0) (.slice A1 M.length c1) (.slice A2 L.length c2) s d) := ⟨hw5 ▸ U5.new _ _ _ _ _ _⟩
 have LB5 : Aside0 (Below w.heap.size w w5) := ⟨hw5 ▸ Xj (Below.refl w.heap.size w) _⟩
 rw [hw5]; have CD := zz (Kd.Xg HD.out LB5.out); have CL := zz (Kd.Xg HL.out LB5.out); have LW7 := zz (Below.refl w5.heap.size w5); clear hw5 HD HL; obtain ⟨x0, x1, x2, x3, x4⟩ := BE5.out.cells
 go_wp2
 go_loopg [3] (L.length + 1 - s.toNat) (fun kq v3 w' => ∃ x : Int, v3 = .int .i64 x ∧ Aside0 (s ≤ x ∧ x.toNat + kq = L.length + 1) ∧ Aside0 (∀ n : Nat, n ≤ L.length → s ≤ (n : Int) → (n : Int) < x → preB D (L.take n) = true) ∧ Aside0 (Below w5.heap.size w5 w'))
 case atStart => exact ⟨s, rfl, ⟨by omega, by omega⟩, ⟨fun n h1 h2 h3 => by omega⟩, LW7⟩
 case round =>
  clear LW7; obtain ⟨x, rfl, hx, hA, LW⟩ := hrel; have z0 := cc LW.out x0; have z1 := cc LW.out x1; have z2 := cc LW.out x2; have z3 := cc LW.out x3; have z4 := cc LW.out x4; have hx0 : s ≤ x := hx.out.1
  cases gk with
  | zero =>
   have qb : decide (x ≤ (L.length : Int)) = false := decide_eq_false zb45
   go_wp2
   go_ret
   exact ⟨by rw [Xf4 (fun n h1 h2 => hA.out n h1 h2 zb45)]; first | done | rfl, Xc LB5.out LW.out⟩
  | succ k1 =>
   have hxl : x ≤ (L.length : Int) := by have := hx.out; omega
   have qb : decide (x ≤ (L.length : Int)) = true := decide_eq_true hxl
   obtain ⟨y, hy⟩ : ∃ y, L.take x.toNat = y := ⟨_, rfl⟩
   have hyl : y.length = x.toNat := by rw [← hy, List.length_take]; omega
   obtain ⟨i0, hi0, _, hsz, _⟩ := info_parts Em; have hcut := Xb7 (P := Tryz.prog) 29 76 .i64 Tryz.underlying29 hi0 A2 L.length c2 x (by omega) hxl HCL.out
   have hCy : Kd.C k76 w5 A2 y.length y := by
    have h_ := Kd.Xb8 (m := x.toNat) CL.out (by omega); rw [hy] at h_; exact h_
   rw [← hyl] at hcut; have HYL := zz hyl; have CY := zz hCy; have HCY := zz (show y.length ≤ c2 by have := HCL.out; omega)
   have hLy : Aside0 (YP y = true) := ⟨hy ▸ BG hg2 x.toNat⟩
   have hyl2 : y.length ≤ 150 := by omega
   have HY := zz hy; clear hCy hi0 hsz hyl hy
   go_wp2_with fail
   have LW2 : Aside0 (Below w5.heap.size w5 wr.drew) := ⟨Xx LW.out⟩
   refine Yw (n := 12) (S := fun w' => w'.cell? ⟨w.heap.size, 0, none⟩ = some (.slice A0 D.length c0) ∧ w'.cell? ⟨w.heap.size, 1, none⟩ = some (.slice A1 M.length c1) ∧ w'.cell? ⟨w.heap.size, 2, none⟩ = some (.slice A2 L.length c2) ∧ w'.cell? ⟨w.heap.size, 3, none⟩ = some (.int .i64 s) ∧ w'.cell? ⟨w.heap.size, 4, none⟩ = some (.bool d)) (ds := []) mPX0 zb6 rfl rfl ⟨cc LW2.out x0, cc LW2.out x1, cc LW2.out x2, cc LW2.out x3, cc LW2.out x4⟩ (fun hHeld => ?_); refine XH Jj.TE Jj.MN (fun HT_ HW_ => ?_); generalize wr.drew = w8 at LW2 hHeld ⊢; clear z0 z1 z2 z3 z4 LW; refine pu 0 16 mPX1 HT_ ?_; refine tk 1 17 mPX2 HT_ HW_ hHeld ?_; refine pu 2 18 mPX3 HT_ ?_; refine tk 3 19 mPX4 HT_ HW_ hHeld ?_; refine pu 4 20 mPX5 HT_ ?_; refine pu 5 21 mPX6 HT_ ?_; refine Zj (i := 6) (N := some 22) mPX7 rfl rfl (Yl HT_.out zb6) (by decide) (fun K hK => ?_); refine YI Tryz.func40 zb6 rfl #[.slice A0 D.length c0, .slice A2 y.length c2] (by rfl) rfl rfl zb2 ?_
   with_reducible refine (Yv.calls 400 A0 c0 D A2 c2 y (XE D y) (Ji (XE D y)) _ (Kd.Xg CD.out LW2.out) HCD.out (Kd.Xg CY.out LW2.out) HCY.out (Wy HV.out hLy.out 400 (by omega))).mono ?_
   rintro e w9 ⟨v5, rfl, hr, hb⟩; refine ⟨_, rfl, ?_⟩; have LW9 := zz (Xc LW2.out hb); have hsz8 := zz LW2.out.size; replace hr := Kd.S_R hr; obtain ⟨A5, c5, e5⟩ := Kd.Y2 hr; subst e5; have R9 := zz (Kd.XZ (Kd.YY (Kd.ZQ hr) hsz8.out) (ok' := fun j => w8.heap.size ≤ j ∧ j < w9.heap.size) (fun j hj => ⟨hj.2.1, hj.2.2.1⟩)); clear hb hr LW2; refine hK.out _ _ ⟨cc LW9.out x0, cc LW9.out x1, cc LW9.out x2, cc LW9.out x3, cc LW9.out x4⟩ (fun hHeld => ?_); clear hK K; refine XQ (a' := ?_) ?_ ?_; rotate_left
   ·show Act.put _ (some 22) _ = _
    simp only [Act.put, List.setIfInBounds_toArray, List.set_cons_zero, List.set_cons_succ, Xz, XF]
    rfl
   refine pu 7 15 mPX8 HT_ ?_; refine pu 8 23 mPX9 HT_ ?_; refine pu 9 24 Xwm HT_ ?_; refine pu 10 4 Xwn HT_ ?_; refine pu 11 5 Xwo HT_ ?_; refine YX (YA HT_.out zb6) ?_; clear hHeld; have z0 := cc LW9.out x0; have z1 := cc LW9.out x1; have z2 := cc LW9.out x2; have z3 := cc LW9.out x3; have z4 := cc LW9.out x4; have hXV := zz (Uw HV.out hLy.out)
   cases hp0 : Ji (XE D y) with
   | false =>
    go_wp2
    go_ret
    exact ⟨by rw [Qy x.toNat zb45 zb45 (by rw [HY.out]; unfold preB; rw [hp0]; rfl)]; first | done | rfl, Xc LB5.out LW9.out⟩
   | true =>
    go_wp2_with fail
    refine (XU.to 3000 (fun j => w8.heap.size ≤ j ∧ j < w9.heap.size) A5 c5 (XE D y) A2 c2 y (MV y (XE D y) (SQ y)) w5 w9 LW9.out (fun j hj => hj.2) R9.out CY.out HCY.out (Xb0 hXV.out hLy.out 3000 (by omega))).mono ?_; rintro e w11 ⟨rfl, hlw, hkp⟩; have LW11 := zz hlw; clear hlw hkp R9 LW9 z0 z1 z2 z3 z4; have z0 := cc LW11.out x0; have z1 := cc LW11.out x1; have z2 := cc LW11.out x2; have z3 := cc LW11.out x3; have z4 := cc LW11.out x4
    cases hp1 : MV y (XE D y) (SQ y) with
    | false =>
     go_wp2
     go_ret
     exact ⟨by rw [Qy x.toNat zb45 zb45 (by rw [HY.out]; unfold preB; rw [hp0, hp1]; rfl)]; first | done | rfl, Xc LB5.out LW11.out⟩
    | true =>
     have hwx : wrap64 (x + 1) = x + 1 := T.wrap_small (by omega) (by omega); have hwx2 : IntKind.i64.wrap (x + 1) = x + 1 := (Xz _).trans hwx
     go_wp2
     go_roundg k1
     case measure => omega
     case rel => exact ⟨x + 1, rfl, ⟨zb45, zb45⟩, ⟨fun n h1 h2 h3 => by
      by_cases e : (n : Int) = x
      ·have en : n = x.toNat := by omega
       rw [en, HY.out]; unfold preB; rw [hp0, hp1]; rfl
      ·exact hA.out n h1 h2 (by omega)⟩, LW11⟩
end Go.Proofs.YtphnphmbfogmlaaGreat.Pr
