import Derived.Test.YtphnphmbfogmlaaGreatQEByq
import Derived.Test.YtphnphmbfogmlaaGreatQESx
import Derived.Test.YtphnphmbfogmlaaGreatQEPrWith
import Derived.Test.YtphnphmbfogmlaaGreatQEMemI
import Derived.Test.YtphnphmbfogmlaaGreatQEPfxI
namespace Go.Proofs.YtphnphmbfogmlaaGreat.T
theorem Xv0 {D M : List Pg} {L : List Rc} {s : Int} {d : Bool} (h : Wn D L s = false) : J7 D M L s d = false := by
 unfold J7
 rw [show (List.range (L.length + 1)).all (fun n => decide ((n : Int) < s) || preB D (L.take n)) = false from h]
 simp
theorem XqW {D M : List Pg} {L : List Rc} {s : Int} {d : Bool} (h0 : DR D M L s = true) (h : Wn D L s = true) (h2 : ∀ p : Nat, p < 5 → Vy D M L s d (p : Int) = true) : J7 D M L s d = true := by
 unfold J7
 rw [h0, show (List.range (L.length + 1)).all (fun n => decide ((n : Int) < s) || preB D (L.take n)) = true from h, Bool.true_and, Bool.true_and, List.all_eq_true]; intro p hp; exact h2 p (by simpa using hp)
theorem Xge {D M : List Pg} {L : List Rc} {s : Int} {p : Int} (h1 : (pg D p).f0 ≤ s) (h2 : Uq L p ≤ 1) : Vy D M L s false p = (if Vd L p = true then (DU D M L p && (pg M p).f1 == (pg (XQ D L) p).f1) else VW (pg M p) (pg (XQ D L) p)) := by
 unfold Vy
 rw [decide_eq_true h1, decide_eq_true h2, Bool.true_and, Bool.true_and, if_neg (by simp)]
theorem Xgf {D M : List Pg} {L : List Rc} {s : Int} {p : Int} (h1 : (pg D p).f0 ≤ s) (h2 : Uq L p ≤ 1) : Vy D M L s true p = VW (pg M p) (pg D p) := by
 unfold Vy
 rw [decide_eq_true h1, decide_eq_true h2, Bool.true_and, Bool.true_and, if_pos rfl]
end Go.Proofs.YtphnphmbfogmlaaGreat.T
namespace Go.Proofs.YtphnphmbfogmlaaGreat.Pr
open Go.RowKit Go.PW Go.PL Go.PM Go.Proofs.YtphnphmbfogmlaaGreat.T
attribute [local go_sem] YO YP Zm Zn Yv Yw YQ YS
set_option linter.unusedVariables false
set_option linter.unusedSimpArgs false
abbrev XyH : Array Bool := #[nn,nn,nn,nn,nn,nn,nn,nn,nn,nn,nn,nn,nn]
abbrev XyI : Array Bool := #[yy,nn,nn,nn,nn,nn,nn,nn,nn,nn,nn,nn,nn]
abbrev XyJ : Array Bool := #[yy,yy,nn,nn,nn,nn,nn,nn,nn,nn,nn,nn,nn]
abbrev XyK : Array Bool := #[yy,yy,yy,nn,nn,nn,nn,nn,nn,nn,nn,nn,nn]
abbrev XyL : Array Bool := #[yy,yy,yy,yy,nn,nn,nn,nn,nn,nn,nn,nn,nn]
abbrev XyM : Array Bool := #[yy,yy,yy,yy,yy,nn,nn,nn,nn,nn,nn,nn,nn]
abbrev XyN : Array Bool := #[yy,yy,yy,yy,yy,yy,nn,nn,nn,nn,nn,nn,nn]
abbrev XyO : Array Bool := #[yy,yy,yy,yy,yy,yy,yy,nn,nn,nn,nn,nn,nn]
abbrev XyP : Array Bool := #[yy,yy,yy,yy,yy,yy,yy,yy,nn,nn,nn,nn,nn]
abbrev XyQ : Array Bool := #[yy,yy,yy,yy,yy,yy,yy,yy,yy,nn,nn,nn,nn]
abbrev XqX : Array Bool := #[yy,yy,yy,yy,yy,yy,yy,yy,yy,yy,nn,nn,nn]
abbrev XqY : Array Bool := #[yy,yy,yy,yy,yy,yy,yy,yy,yy,yy,yy,nn,nn]
abbrev XqZ : Array Bool := #[yy,yy,yy,yy,yy,yy,yy,yy,yy,yy,yy,yy,nn]
abbrev Xra : Array Bool := #[yy,yy,yy,yy,yy,yy,yy,yy,yy,yy,yy,yy,yy]
abbrev Xm3 : Array Bool := #[nn,nn,nn,nn,nn,nn,nn,nn,nn,nn,nn,nn,nn,nn,nn,nn,nn,nn,nn,nn,nn,nn,nn,nn,nn,nn,nn,nn,nn,nn,nn]
abbrev Xm4 : Array Bool := #[yy,nn,nn,nn,nn,nn,nn,nn,nn,nn,nn,nn,nn,nn,nn,nn,nn,nn,nn,nn,nn,nn,nn,nn,nn,nn,nn,nn,nn,nn,nn]
abbrev Xm5 : Array Bool := #[yy,yy,nn,nn,nn,nn,nn,nn,nn,nn,nn,nn,nn,nn,nn,nn,nn,nn,nn,nn,nn,nn,nn,nn,nn,nn,nn,nn,nn,nn,nn]
abbrev Xm6 : Array Bool := #[yy,yy,yy,nn,nn,nn,nn,nn,nn,nn,nn,nn,nn,nn,nn,nn,nn,nn,nn,nn,nn,nn,nn,nn,nn,nn,nn,nn,nn,nn,nn]
abbrev Xm7 : Array Bool := #[yy,yy,yy,yy,nn,nn,nn,nn,nn,nn,nn,nn,nn,nn,nn,nn,nn,nn,nn,nn,nn,nn,nn,nn,nn,nn,nn,nn,nn,nn,nn]
abbrev Xm8 : Array Bool := #[yy,yy,yy,yy,yy,nn,nn,nn,nn,nn,nn,nn,nn,nn,nn,nn,nn,nn,nn,nn,nn,nn,nn,nn,nn,nn,nn,nn,nn,nn,nn]
abbrev Xm9 : Array Bool := #[yy,yy,yy,yy,yy,yy,nn,nn,nn,nn,nn,nn,nn,nn,nn,nn,nn,nn,nn,nn,nn,nn,nn,nn,nn,nn,nn,nn,nn,nn,nn]
abbrev XmA : Array Bool := #[yy,yy,yy,yy,yy,yy,yy,nn,nn,nn,nn,nn,nn,nn,nn,nn,nn,nn,nn,nn,nn,nn,nn,nn,nn,nn,nn,nn,nn,nn,nn]
abbrev XmB : Array Bool := #[yy,yy,yy,yy,yy,yy,yy,yy,nn,nn,nn,nn,nn,nn,nn,nn,nn,nn,nn,nn,nn,nn,nn,nn,nn,nn,nn,nn,nn,nn,nn]
abbrev XmC : Array Bool := #[yy,yy,yy,yy,yy,yy,yy,yy,yy,nn,nn,nn,nn,nn,nn,nn,nn,nn,nn,nn,nn,nn,nn,nn,nn,nn,nn,nn,nn,nn,nn]
abbrev XmD : Array Bool := #[yy,yy,yy,yy,yy,yy,yy,yy,yy,yy,nn,nn,nn,nn,nn,nn,nn,nn,nn,nn,nn,nn,nn,nn,nn,nn,nn,nn,nn,nn,nn]
abbrev XmE : Array Bool := #[yy,yy,yy,yy,yy,yy,yy,yy,yy,yy,yy,nn,nn,nn,nn,nn,nn,nn,nn,nn,nn,nn,nn,nn,nn,nn,nn,nn,nn,nn,nn]
abbrev XmF : Array Bool := #[yy,yy,yy,yy,yy,yy,yy,yy,yy,yy,yy,yy,nn,nn,nn,nn,nn,nn,nn,nn,nn,nn,nn,nn,nn,nn,nn,nn,nn,nn,nn]
abbrev XmG : Array Bool := #[yy,yy,yy,yy,yy,yy,yy,yy,yy,yy,yy,yy,yy,nn,nn,nn,nn,nn,nn,nn,nn,nn,nn,nn,nn,nn,nn,nn,nn,nn,nn]
abbrev XmH : Array Bool := #[yy,yy,yy,yy,yy,yy,yy,yy,yy,yy,yy,yy,yy,yy,nn,nn,nn,nn,nn,nn,nn,nn,nn,nn,nn,nn,nn,nn,nn,nn,nn]
abbrev XmI : Array Bool := #[yy,yy,yy,yy,yy,yy,yy,yy,yy,yy,yy,yy,yy,yy,yy,nn,nn,nn,nn,nn,nn,nn,nn,nn,nn,nn,nn,nn,nn,nn,nn]
abbrev XmJ : Array Bool := #[yy,yy,yy,yy,yy,yy,yy,yy,yy,yy,yy,yy,yy,yy,yy,yy,nn,nn,nn,nn,nn,nn,nn,nn,nn,nn,nn,nn,nn,nn,nn]
abbrev XmK : Array Bool := #[yy,yy,yy,yy,yy,yy,yy,yy,yy,yy,yy,yy,yy,yy,yy,yy,yy,nn,nn,nn,nn,nn,nn,nn,nn,nn,nn,nn,nn,nn,nn]
abbrev XmL : Array Bool := #[yy,yy,yy,yy,yy,yy,yy,yy,yy,yy,yy,yy,yy,yy,yy,yy,yy,yy,nn,nn,nn,nn,nn,nn,nn,nn,nn,nn,nn,nn,nn]
abbrev XmM : Array Bool := #[yy,yy,yy,yy,yy,yy,yy,yy,yy,yy,yy,yy,yy,yy,yy,yy,yy,yy,yy,nn,nn,nn,nn,nn,nn,nn,nn,nn,nn,nn,nn]
abbrev XmN : Array Bool := #[yy,yy,yy,yy,yy,yy,yy,yy,yy,yy,yy,yy,yy,yy,yy,yy,yy,yy,yy,yy,nn,nn,nn,nn,nn,nn,nn,nn,nn,nn,nn]
abbrev XmO : Array Bool := #[yy,yy,yy,yy,yy,yy,yy,yy,yy,yy,yy,yy,yy,yy,yy,yy,yy,yy,yy,yy,yy,nn,nn,nn,nn,nn,nn,nn,nn,nn,nn]
abbrev XmP : Array Bool := #[yy,yy,yy,yy,yy,yy,yy,yy,yy,yy,yy,yy,yy,yy,yy,yy,yy,yy,yy,yy,yy,yy,nn,nn,nn,nn,nn,nn,nn,nn,nn]
abbrev XmQ : Array Bool := #[yy,yy,yy,yy,yy,yy,yy,yy,yy,yy,yy,yy,yy,yy,yy,yy,yy,yy,yy,yy,yy,yy,yy,nn,nn,nn,nn,nn,nn,nn,nn]
abbrev XmR : Array Bool := #[yy,yy,yy,yy,yy,yy,yy,yy,yy,yy,yy,yy,yy,yy,yy,yy,yy,yy,yy,yy,yy,yy,yy,yy,nn,nn,nn,nn,nn,nn,nn]
abbrev XmS : Array Bool := #[yy,yy,yy,yy,yy,yy,yy,yy,yy,yy,yy,yy,yy,yy,yy,yy,yy,yy,yy,yy,yy,yy,yy,yy,yy,nn,nn,nn,nn,nn,nn]
abbrev XmT : Array Bool := #[yy,yy,yy,yy,yy,yy,yy,yy,yy,yy,yy,yy,yy,yy,yy,yy,yy,yy,yy,yy,yy,yy,yy,yy,yy,yy,nn,nn,nn,nn,nn]
abbrev XmU : Array Bool := #[yy,yy,yy,yy,yy,yy,yy,yy,yy,yy,yy,yy,yy,yy,yy,yy,yy,yy,yy,yy,yy,yy,yy,yy,yy,yy,yy,nn,nn,nn,nn]
abbrev XmV : Array Bool := #[yy,yy,yy,yy,yy,yy,yy,yy,yy,yy,yy,yy,yy,yy,yy,yy,yy,yy,yy,yy,yy,yy,yy,yy,yy,yy,yy,yy,nn,nn,nn]
abbrev XmW : Array Bool := #[yy,yy,yy,yy,yy,yy,yy,yy,yy,yy,yy,yy,yy,yy,yy,yy,yy,yy,yy,yy,yy,yy,yy,yy,yy,yy,yy,yy,yy,nn,nn]
abbrev XmX : Array Bool := #[yy,yy,yy,yy,yy,yy,yy,yy,yy,yy,yy,yy,yy,yy,yy,yy,yy,yy,yy,yy,yy,yy,yy,yy,yy,yy,yy,yy,yy,yy,nn]
abbrev XmY : Array Bool := #[yy,yy,yy,yy,yy,yy,yy,yy,yy,yy,yy,yy,yy,yy,yy,yy,yy,yy,yy,yy,yy,yy,yy,yy,yy,yy,yy,yy,yy,yy,yy]
def Xx.T8 : Bool × List (List Nat × List Nat) := (true, [([], []), ([0], [0]), ([1], [1]), ([2], [2]), ([3, 2], [2, 3]), ([2], [2]), ([4, 5, 2], [2, 4, 5]), ([6, 2], [2, 6]), ([7, 2], [2, 7]), ([2], [2]), ([9, 2], [2, 9]), ([8, 10, 2], [2, 8, 10]), ([2, 11], [2, 11])])
def Xx.B8 : List Nat := [0, 1, 3, 7, 15, 7, 63, 127, 255, 7, 519, 2047, 4095]
theorem Xx.XiF : Ve .any (opsOf Tryz.f27 8) = Xx.T8 := by kernel_rfl
theorem Xx.Qq : Ja Xx.T8.2 Xx.B8 = true := by kernel_rfl
def Xx.T10 : Bool × List (List Nat × List Nat) := (true, [([], []), ([0], [0]), ([1], [1]), ([2], [2]), ([3, 2], [2, 3]), ([2], [2]), ([4, 5, 2], [2, 4, 5]), ([6, 2], [2, 6]), ([2], [2]), ([8, 2], [2, 8]), ([2], [2]), ([9, 10, 2], [2, 9, 10]), ([11, 2], [2, 11]), ([7, 12, 2, 2], [2, 7, 12]), ([13, 2], [2, 13]), ([2, 14], [2, 14]), ([15, 13], [15]), ([16], [16]), ([17, 16], [16, 17]), ([18, 16], [16, 18]), ([19, 16, 16], [16, 19]), ([20], [20]), ([20], [20]), ([20], [20]), ([20], [20]), ([23, 24, 20], [20, 23, 24]), ([25, 20], [20, 25]), ([21, 22, 26, 20, 20], [20, 21, 22, 26]), ([27, 20], [20, 27]), ([20, 28, 16], [16, 20, 28]), ([16, 29], [16, 29])])
def Xx.B10 : List Nat := [0, 1, 3, 7, 15, 7, 63, 127, 7, 263, 7, 1799, 3847, 8191, 16383, 32767, 65535, 131071, 262143, 524287, 1048575, 2097151, 2097151, 2097151, 2097151, 27262975, 60817407, 134217727, 268435455, 536870911, 1073741823]
theorem Xx.XmZ : Ve .any (opsOf Tryz.f27 10) = Xx.T10 := by kernel_rfl
theorem Xx.XeH : Ja Xx.T10.2 Xx.B10 = true := by kernel_rfl
set_option maxHeartbeats 8000000 in
set_option maxRecDepth 100000 in
theorem Xx.to (A0 : Option Addr) (c0 : Nat) (D : List S56) (A1 : Option Addr) (c1 : Nat) (M : List S56) (A2 : Option Addr) (c2 : Nat) (L : List S76) (s : Int) (d : Bool) (w : World) (hD : Kd.C k56 w A0 D.length D) (hc0 : D.length ≤ c0) (hM : Kd.C k56 w A1 M.length M) (hc1 : M.length ≤ c1) (hL : Kd.C k76 w A2 L.length L) (hc2 : L.length ≤ c2) :
 Calls Tryz.prog 27 #[.agg #[.slice A0 D.length c0, .slice A1 M.length c1, .slice A2 L.length c2, .int .i64 s, .bool d]] w fun e w' => e = .returned (.bool (J7 D M L s d)) ∧ Below w.heap.size w w' := by
 obtain ⟨b, hbv⟩ : ∃ b, J7 D M L s d = b := ⟨_, rfl⟩
 rw [hbv]; have HBv := zz hbv; clear hbv; have hu31 := Tryz.underlying31; have hu41 := Tryz.underlying76; have hu25 := Tryz.underlying56; have HD := zz hD; have HM := zz hM; have HL := zz hL; have HCD := zz hc0; have HCM := zz hc1; have HCL := zz hc2; clear hD hM hL hc0 hc1 hc2
 go_enter Tryz.func27, Tryz.ntmps27
 go_wp2_with fail
 have BE0 : Aside0 (Na (w.alloc (.cells #[.slice A0 D.length c0, .slice A1 M.length c1, .slice A2 L.length c2, .int .i64 s, .bool d] 31)) w.heap.size (.slice A0 D.length c0) (.slice A1 M.length c1) (.slice A2 L.length c2) s d) := ⟨Na.new _ _ _ _ _ _⟩
 have LB0 := zz (X0 (Below.refl w.heap.size w) (.cells #[.slice A0 D.length c0, .slice A1 M.length c1, .slice A2 L.length c2, .int .i64 s, .bool d] 31)); refine (NL A0 c0 D _ (Kd.Xr HD.out LB0.out) HCD.out).mono ?_; rintro e w1 ⟨rfl, hb⟩; have BE1 := zz (BE0.out.below hb); have LB1 := zz (Xc LB0.out hb); clear hb BE0 LB0; obtain ⟨x0, x1, x2, x3, x4⟩ := BE1.out.cells
 cases hg0 : JG D with
 | false =>
  go_wp2
  go_ret
  exact ⟨by rw [show b = false from by rw [← HBv.out, VX (by unfold DR; rw [hg0]; rfl)]]; first | done | rfl, LB1.out⟩
 | true =>
  have HV := zz (PG hg0)
  go_wp2_with fail
  refine (NL A1 c1 M _ (Kd.Xr HM.out LB1.out) HCM.out).mono ?_; rintro e w2 ⟨rfl, hb⟩; have BE2 := zz (BE1.out.below hb); have LB2 := zz (Xc LB1.out hb); clear hb BE1 LB1 x0 x1 x2 x3 x4; obtain ⟨x0, x1, x2, x3, x4⟩ := BE2.out.cells
  cases hg1 : JG M with
  | false =>
   go_wp2
   go_ret
   exact ⟨by rw [show b = false from by rw [← HBv.out, VX (by unfold DR; rw [hg0, hg1]; rfl)]]; first | done | rfl, LB2.out⟩
  | true =>
   have HVM := zz (PG hg1)
   go_wp2_with fail
   refine (EF A2 c2 L _ (Kd.Xr HL.out LB2.out) HCL.out).mono ?_; rintro e w3 ⟨rfl, hb⟩; have BE3 := zz (BE2.out.below hb); have LB3 := zz (Xc LB2.out hb); clear hb BE2 LB2 x0 x1 x2 x3 x4; obtain ⟨x0, x1, x2, x3, x4⟩ := BE3.out.cells
   cases hg2 : Za L with
   | false =>
    go_wp2
    go_ret
    exact ⟨by rw [show b = false from by rw [← HBv.out, VX (by unfold DR; rw [hg0, hg1, hg2]; rfl)]]; first | done | rfl, LB3.out⟩
   | true =>
    go_wp2_with fail
    refine (MP s 0 (L.length : Int) _).mono ?_; rintro e w4 ⟨rfl, hw⟩
    have hb : Below w3.heap.size w3 w4 := by rw [← hw]; exact Below.refl _ _
    have BE4 := zz (BE3.out.below hb); have LB4 := zz (Xc LB3.out hb); clear hb BE3 LB3 hw x0 x1 x2 x3 x4; obtain ⟨x0, x1, x2, x3, x4⟩ := BE4.out.cells
    cases hg3 : inB s 0 (L.length : Int) with
    | false =>
     go_wp2
     go_ret
     exact ⟨by rw [show b = false from by rw [← HBv.out, VX (by unfold DR; rw [hg0, hg1, hg2, hg3]; rfl)]]; first | done | rfl, LB4.out⟩
    | true =>
     go_wp2_with fail
     refine (Sl.calls 1000 A2 c2 L (decide (L.length + MN L ≤ 150)) _ (Kd.Xr HL.out LB4.out) HCL.out (XiA hg2 1000 (by omega))).mono ?_; rintro e w5 ⟨rfl, hb⟩; have BE5 := zz (BE4.out.below hb); have LB5 := zz (Xc LB4.out hb); clear hb BE4 LB4 x0 x1 x2 x3 x4; obtain ⟨x0, x1, x2, x3, x4⟩ := BE5.out.cells
     cases hg4 : decide (L.length + MN L ≤ 150) with
     | false =>
      go_wp2
      go_ret
      exact ⟨by rw [show b = false from by rw [← HBv.out, VX (by unfold DR; rw [hg0, hg1, hg2, hg3, hg4]; rfl)]]; first | done | rfl, LB5.out⟩
     | true =>
      go_wp2_with fail
      refine (CG A0 c0 D A1 c1 M A2 c2 L s d _ (Kd.Xr HD.out LB5.out) HCD.out (Kd.Xr HL.out LB5.out) HCL.out HV.out hg2 (DF.mp hg3).1 (DF.mp hg3).2).mono ?_; rintro e w6 ⟨rfl, hb⟩; have BE6 := zz (BE5.out.below hb); have LB6 := zz (Xc LB5.out hb); clear hb BE5 LB5 x0 x1 x2 x3 x4; obtain ⟨x0, x1, x2, x3, x4⟩ := BE6.out.cells
      cases hg5 : Wn D L s with
      | false =>
       go_wp2
       go_ret
       exact ⟨by rw [show b = false from by rw [← HBv.out, Xv0 hg5]]; first | done | rfl, LB6.out⟩
      | true =>
       have hH : DR D M L s = true := by unfold DR; rw [hg0, hg1, hg2, hg3, hg4]; rfl
       have hlen := ZY hg2
       have hgr : JG (XQ D L) = true := by
        have h_ := hg5
        unfold Wn at h_
        rw [List.all_eq_true] at h_; have h2_ := h_ L.length (by simp); have h3_ := (DF.mp hg3).2; rw [decide_eq_false (by omega), Bool.false_or] at h2_; exact XfX h2_
       go_wp2_with fail
       refine (YH.calls 400 A0 c0 D A2 c2 L (XQ D L) (JG (XQ D L)) _ (Kd.Xr HD.out LB6.out) HCD.out (Kd.Xr HL.out LB6.out) HCL.out (Qf HV.out hg2 400 (by omega))).mono ?_; rintro e w7 ⟨v3, rfl, hr, hb⟩; replace hr := Kd.S_R hr; obtain ⟨A3, c3, e3⟩ := Kd.YZ hr; subst e3; have HR := zz (Kd.XN hr).2.2; have HCR := zz (Kd.XN hr).2.1; have BE7 := zz (BE6.out.below hb); have LB7 := zz (Xc LB6.out hb); have CD := zz (Kd.Xr HD.out LB7.out); have CM := zz (Kd.Xr HM.out LB7.out); have CL := zz (Kd.Xr HL.out LB7.out); have LW7 := zz (Below.refl w7.heap.size w7); clear hb hr BE6 LB6 x0 x1 x2 x3 x4 HD HM HL; obtain ⟨x0, x1, x2, x3, x4⟩ := BE7.out.cells
       go_wp2
       go_loopg [52] 5 (fun kq v52 w' => ∃ p : Int, v52 = .int .i64 p ∧ Aside0 (0 ≤ p ∧ p.toNat + kq = 5) ∧ Aside0 (∀ n : Nat, n < 5 → (n : Int) < p → Vy D M L s d (n : Int) = true) ∧ Aside0 (Below w7.heap.size w7 w'))
       case atStart => exact ⟨0, rfl, ⟨by omega, by omega⟩, ⟨fun n h1 h2 => by omega⟩, LW7⟩
       case round =>
        clear LW7; obtain ⟨p, rfl, hp, hB, LW⟩ := hrel; have z0 := cc LW.out x0; have z1 := cc LW.out x1; have z2 := cc LW.out x2; have z3 := cc LW.out x3; have z4 := cc LW.out x4; have hp0 : 0 ≤ p := hp.out.1
        cases gk with
        | zero =>
         have qb : decide (p < 5) = false := decide_eq_false (by have := hp.out; omega)
         go_wp2
         go_ret
         exact ⟨by rw [show b = true from by rw [← HBv.out, XqW hH hg5 (fun n h1 => hB.out n h1 (by have := hp.out; omega))]]; first | done | rfl, Xc LB7.out LW.out⟩
        | succ k1 =>
         have hp5 : p < 5 := by have := hp.out; omega
         have qb : decide (p < 5) = true := decide_eq_true hp5; have hnp := zz (show ((p.toNat : Nat) : Int) = p by omega)
         have hlD : p < (D.length : Int) := by have := HV.out.1; omega
         have hlM : p < (M.length : Int) := by have := HVM.out.1; omega
         have hlR : p < ((XQ D L).length : Int) := by have := (Sm HV.out hg2).1; omega
         have q0 := eq_true hp0; have qD := eq_true hlD; have qM := eq_true hlM; have qR := eq_true hlR; obtain ⟨aD, BD, bD, eD, d0, d1, d2, hdl, hdc⟩ := ZU CD.out p hp0 hlD; obtain ⟨aM, BM, bM, eM, m0, m1, m2, hml, hmc⟩ := ZU CM.out p hp0 hlM; obtain ⟨aR, BR, bR, eR, r0, r1, r2, hrl, hrc⟩ := ZU HR.out p hp0 hlR; subst eD eM eR; have ID := zz hdc; have JD := zz hdl; have IM := zz hmc; have JM := zz hml; have IR := zz hrc; have JR := zz hrl; clear hdl hdc hml hmc hrl hrc hlD hlM hlR
         go_wp2_with fail
         refine (Et A2 c2 L p _ hg2 (Kd.Xr CL.out LW.out) HCL.out).mono ?_; rintro e w8 ⟨rfl, hb⟩; have LW8 := zz (Xc LW.out hb); clear hb LW z0 z1 z2 z3 z4; have z0 := cc LW8.out x0; have z1 := cc LW8.out x1; have z2 := cc LW8.out x2; have z3 := cc LW8.out x3; have z4 := cc LW8.out x4; rw [Xrb]; generalize hh0 : decide (Uq L p ≤ 1) = h1
         go_upto_region 8 with (fail)
         go_cut [74] (fun v74 wc => ∃ b1 : Bool, v74 = .bool b1 ∧ Aside0 (b1 = true → Vy D M L s d p = false) ∧ Aside0 (b1 = false → Uq L p ≤ 1 ∧ (pg D p).f0 ≤ s) ∧ Aside0 (Below w7.heap.size w7 wc))
         case first =>
          cases h1
          ·have hhb := hh0
           have LW2 : Aside0 (Below w7.heap.size w7 w8.drew) := ⟨X6 LW8.out⟩
           refine Y5 (n := 13) (S := fun w' => w'.cell? ⟨w.heap.size, 0, none⟩ = some (.slice (some aD) D.length c0) ∧ w'.cell? ⟨w.heap.size, 1, none⟩ = some (.slice (some aM) M.length c1) ∧ w'.cell? ⟨w.heap.size, 2, none⟩ = some (.slice A2 L.length c2) ∧ w'.cell? ⟨w.heap.size, 3, none⟩ = some (.int .i64 s) ∧ w'.cell? ⟨w.heap.size, 4, none⟩ = some (.bool d) ∧ w'.cell? (aD.add (p.toNat * 3)) = some (.int .i64 (Xb D p).f0) ∧ w'.cell? ⟨(aD.add (p.toNat * 3)).block, (aD.add (p.toNat * 3)).off + 1, none⟩ = some (.int .i64 (Xb D p).f1) ∧ w'.cell? ⟨(aD.add (p.toNat * 3)).block, (aD.add (p.toNat * 3)).off + 2, none⟩ = some (.slice BD (Xb D p).f2.length bD) ∧ w'.cell? (aM.add (p.toNat * 3)) = some (.int .i64 (Xb M p).f0) ∧ w'.cell? ⟨(aM.add (p.toNat * 3)).block, (aM.add (p.toNat * 3)).off + 1, none⟩ = some (.int .i64 (Xb M p).f1) ∧ w'.cell? ⟨(aM.add (p.toNat * 3)).block, (aM.add (p.toNat * 3)).off + 2, none⟩ = some (.slice BM (Xb M p).f2.length bM) ∧ w'.cell? (aR.add (p.toNat * 3)) = some (.int .i64 (Xb (XQ D L) p).f0) ∧ w'.cell? ⟨(aR.add (p.toNat * 3)).block, (aR.add (p.toNat * 3)).off + 1, none⟩ = some (.int .i64 (Xb (XQ D L) p).f1) ∧ w'.cell? ⟨(aR.add (p.toNat * 3)).block, (aR.add (p.toNat * 3)).off + 2, none⟩ = some (.slice BR (Xb (XQ D L) p).f2.length bR)) (ds := []) XyH zb9 rfl rfl ⟨cc LW2.out x0, cc LW2.out x1, cc LW2.out x2, cc LW2.out x3, cc LW2.out x4, cc LW2.out d0, cc LW2.out d1, cc LW2.out d2, cc LW2.out m0, cc LW2.out m1, cc LW2.out m2, cc LW2.out r0, cc LW2.out r1, cc LW2.out r2⟩ (fun hHeld => ?_); refine XV Xx.XiF Xx.Qq (fun HT_ HW_ => ?_)
           generalize w8.drew = w20 at LW2 hHeld ⊢; clear z0 z1 z2 z3 z4 LW8; refine pu 0 62 XyI HT_ ?_; refine pu 1 63 XyJ HT_ ?_; refine pu 2 64 XyK HT_ ?_; refine pn 3 65 XyL HT_ ?_; refine pn 4 66 XyM HT_ ?_; refine pn 5 67 XyN HT_ ?_; refine pn 6 68 XyO HT_ ?_; refine pn 7 69 XyP HT_ ?_; refine pn 8 70 XyQ HT_ ?_; refine pn 9 71 XqX HT_ ?_; refine pn 10 72 XqY HT_ ?_; refine pn 11 73 XqZ HT_ ?_; refine pu 12 74 Xra HT_ ?_; refine Zl (YT HT_.out zb9) ?_; clear hHeld
           go_wp2
           go_meet
           case rel => exact ⟨true, rfl, ⟨fun _ => by unfold Vy; rw [hhb]; simp⟩, ⟨(fun h => absurd h (by simp))⟩, LW2⟩
          have hhb := hh0; have hh : Uq L p ≤ 1 := of_decide_eq_true hh0
          by_cases cs1 : (Xb D p).f0 > s
          ·have c1b : decide (s < (Xb D p).f0) = true := decide_eq_true cs1
           have LW2 : Aside0 (Below w7.heap.size w7 w8.drew) := ⟨X6 LW8.out⟩
           refine Y5 (n := 13) (S := fun w' => w'.cell? ⟨w.heap.size, 0, none⟩ = some (.slice (some aD) D.length c0) ∧ w'.cell? ⟨w.heap.size, 1, none⟩ = some (.slice (some aM) M.length c1) ∧ w'.cell? ⟨w.heap.size, 2, none⟩ = some (.slice A2 L.length c2) ∧ w'.cell? ⟨w.heap.size, 3, none⟩ = some (.int .i64 s) ∧ w'.cell? ⟨w.heap.size, 4, none⟩ = some (.bool d) ∧ w'.cell? (aD.add (p.toNat * 3)) = some (.int .i64 (Xb D p).f0) ∧ w'.cell? ⟨(aD.add (p.toNat * 3)).block, (aD.add (p.toNat * 3)).off + 1, none⟩ = some (.int .i64 (Xb D p).f1) ∧ w'.cell? ⟨(aD.add (p.toNat * 3)).block, (aD.add (p.toNat * 3)).off + 2, none⟩ = some (.slice BD (Xb D p).f2.length bD) ∧ w'.cell? (aM.add (p.toNat * 3)) = some (.int .i64 (Xb M p).f0) ∧ w'.cell? ⟨(aM.add (p.toNat * 3)).block, (aM.add (p.toNat * 3)).off + 1, none⟩ = some (.int .i64 (Xb M p).f1) ∧ w'.cell? ⟨(aM.add (p.toNat * 3)).block, (aM.add (p.toNat * 3)).off + 2, none⟩ = some (.slice BM (Xb M p).f2.length bM) ∧ w'.cell? (aR.add (p.toNat * 3)) = some (.int .i64 (Xb (XQ D L) p).f0) ∧ w'.cell? ⟨(aR.add (p.toNat * 3)).block, (aR.add (p.toNat * 3)).off + 1, none⟩ = some (.int .i64 (Xb (XQ D L) p).f1) ∧ w'.cell? ⟨(aR.add (p.toNat * 3)).block, (aR.add (p.toNat * 3)).off + 2, none⟩ = some (.slice BR (Xb (XQ D L) p).f2.length bR)) (ds := []) XyH zb9 rfl rfl ⟨cc LW2.out x0, cc LW2.out x1, cc LW2.out x2, cc LW2.out x3, cc LW2.out x4, cc LW2.out d0, cc LW2.out d1, cc LW2.out d2, cc LW2.out m0, cc LW2.out m1, cc LW2.out m2, cc LW2.out r0, cc LW2.out r1, cc LW2.out r2⟩ (fun hHeld => ?_); refine XV Xx.XiF Xx.Qq (fun HT_ HW_ => ?_)
           generalize w8.drew = w20 at LW2 hHeld ⊢; clear z0 z1 z2 z3 z4 LW8; refine pu 0 62 XyI HT_ ?_; refine pu 1 63 XyJ HT_ ?_; refine pu 2 64 XyK HT_ ?_; refine pu 3 65 XyL HT_ ?_; refine tk 4 66 XyM HT_ HW_ hHeld ?_; refine pu 5 67 XyN HT_ ?_; refine pu 6 68 XyO HT_ ?_; refine pu 7 69 XyP HT_ ?_; refine tk 8 70 XyQ HT_ HW_ hHeld ?_; refine pu 9 71 XqX HT_ ?_; refine tk 10 72 XqY HT_ HW_ hHeld ?_; refine pu 11 73 XqZ HT_ ?_; refine pu 12 74 Xra HT_ ?_; refine Zl (YT HT_.out zb9) ?_; clear hHeld
           go_wp2
           go_meet
           case rel => exact ⟨true, rfl, ⟨fun _ => by unfold Vy; rw [decide_eq_false (show ¬ (pg D p).f0 ≤ s from by show ¬ (Xb D p).f0 ≤ s; omega)]; rfl⟩, ⟨(fun h => absurd h (by simp))⟩, LW2⟩
          ·have c1b : decide (s < (Xb D p).f0) = false := decide_eq_false cs1
           have LW2 : Aside0 (Below w7.heap.size w7 w8.drew) := ⟨X6 LW8.out⟩
           refine Y5 (n := 13) (S := fun w' => w'.cell? ⟨w.heap.size, 0, none⟩ = some (.slice (some aD) D.length c0) ∧ w'.cell? ⟨w.heap.size, 1, none⟩ = some (.slice (some aM) M.length c1) ∧ w'.cell? ⟨w.heap.size, 2, none⟩ = some (.slice A2 L.length c2) ∧ w'.cell? ⟨w.heap.size, 3, none⟩ = some (.int .i64 s) ∧ w'.cell? ⟨w.heap.size, 4, none⟩ = some (.bool d) ∧ w'.cell? (aD.add (p.toNat * 3)) = some (.int .i64 (Xb D p).f0) ∧ w'.cell? ⟨(aD.add (p.toNat * 3)).block, (aD.add (p.toNat * 3)).off + 1, none⟩ = some (.int .i64 (Xb D p).f1) ∧ w'.cell? ⟨(aD.add (p.toNat * 3)).block, (aD.add (p.toNat * 3)).off + 2, none⟩ = some (.slice BD (Xb D p).f2.length bD) ∧ w'.cell? (aM.add (p.toNat * 3)) = some (.int .i64 (Xb M p).f0) ∧ w'.cell? ⟨(aM.add (p.toNat * 3)).block, (aM.add (p.toNat * 3)).off + 1, none⟩ = some (.int .i64 (Xb M p).f1) ∧ w'.cell? ⟨(aM.add (p.toNat * 3)).block, (aM.add (p.toNat * 3)).off + 2, none⟩ = some (.slice BM (Xb M p).f2.length bM) ∧ w'.cell? (aR.add (p.toNat * 3)) = some (.int .i64 (Xb (XQ D L) p).f0) ∧ w'.cell? ⟨(aR.add (p.toNat * 3)).block, (aR.add (p.toNat * 3)).off + 1, none⟩ = some (.int .i64 (Xb (XQ D L) p).f1) ∧ w'.cell? ⟨(aR.add (p.toNat * 3)).block, (aR.add (p.toNat * 3)).off + 2, none⟩ = some (.slice BR (Xb (XQ D L) p).f2.length bR)) (ds := []) XyH zb9 rfl rfl ⟨cc LW2.out x0, cc LW2.out x1, cc LW2.out x2, cc LW2.out x3, cc LW2.out x4, cc LW2.out d0, cc LW2.out d1, cc LW2.out d2, cc LW2.out m0, cc LW2.out m1, cc LW2.out m2, cc LW2.out r0, cc LW2.out r1, cc LW2.out r2⟩ (fun hHeld => ?_); refine XV Xx.XiF Xx.Qq (fun HT_ HW_ => ?_)
           generalize w8.drew = w20 at LW2 hHeld ⊢; clear z0 z1 z2 z3 z4 LW8; refine pu 0 62 XyI HT_ ?_; refine pu 1 63 XyJ HT_ ?_; refine pu 2 64 XyK HT_ ?_; refine pu 3 65 XyL HT_ ?_; refine tk 4 66 XyM HT_ HW_ hHeld ?_; refine pu 5 67 XyN HT_ ?_; refine pu 6 68 XyO HT_ ?_; refine pu 7 69 XyP HT_ ?_; refine tk 8 70 XyQ HT_ HW_ hHeld ?_; refine pu 9 71 XqX HT_ ?_; refine tk 10 72 XqY HT_ HW_ hHeld ?_; refine pu 11 73 XqZ HT_ ?_; refine pu 12 74 Xra HT_ ?_; refine Zl (YT HT_.out zb9) ?_; clear hHeld
           go_wp2
           go_meet
           case rel => exact ⟨false, rfl, ⟨(fun h => absurd h (by simp))⟩, ⟨fun _ => ⟨hh, by show (Xb D p).f0 ≤ s; omega⟩⟩, LW2⟩
         case rest =>
          clear LW8 z0 z1 z2 z3 z4; obtain ⟨b1, rfl, hb1, hb2, LW⟩ := hcut; have z0 := cc LW.out x0; have z1 := cc LW.out x1; have z2 := cc LW.out x2; have z3 := cc LW.out x3; have z4 := cc LW.out x4
          cases b1 with
          | true =>
           go_wp2
           go_ret
           exact ⟨by rw [show b = false from by rw [← HBv.out, Sn p.toNat (by omega) (by rw [hnp.out]; exact hb1.out (by simp))]]; first | done | rfl, Xc LB7.out LW.out⟩
          | false =>
           obtain ⟨hh, hds⟩ := hb2.out (by simp); have HH := zz hh; have HDS := zz hds; clear hb1 hb2 hh hds
           go_upto_region 10 with (fail)
           go_cut [105] (fun v105 wc => ∃ b1 : Bool, v105 = .bool b1 ∧ Aside0 (Vy D M L s d p = !b1) ∧ Aside0 (Below w7.heap.size w7 wc))
           case first =>
            cases d with
            | true =>
             cases hSm : VW (pg M p) (pg D p) with
             | false =>
              have LW2 : Aside0 (Below w7.heap.size w7 wc.drew) := ⟨X6 LW.out⟩
              refine Y5 (n := 31) (S := fun w' => w'.cell? ⟨w.heap.size, 0, none⟩ = some (.slice (some aD) D.length c0) ∧ w'.cell? ⟨w.heap.size, 1, none⟩ = some (.slice (some aM) M.length c1) ∧ w'.cell? ⟨w.heap.size, 2, none⟩ = some (.slice A2 L.length c2) ∧ w'.cell? ⟨w.heap.size, 3, none⟩ = some (.int .i64 s) ∧ w'.cell? ⟨w.heap.size, 4, none⟩ = some (.bool true) ∧ w'.cell? (aD.add (p.toNat * 3)) = some (.int .i64 (Xb D p).f0) ∧ w'.cell? ⟨(aD.add (p.toNat * 3)).block, (aD.add (p.toNat * 3)).off + 1, none⟩ = some (.int .i64 (Xb D p).f1) ∧ w'.cell? ⟨(aD.add (p.toNat * 3)).block, (aD.add (p.toNat * 3)).off + 2, none⟩ = some (.slice BD (Xb D p).f2.length bD) ∧ w'.cell? (aM.add (p.toNat * 3)) = some (.int .i64 (Xb M p).f0) ∧ w'.cell? ⟨(aM.add (p.toNat * 3)).block, (aM.add (p.toNat * 3)).off + 1, none⟩ = some (.int .i64 (Xb M p).f1) ∧ w'.cell? ⟨(aM.add (p.toNat * 3)).block, (aM.add (p.toNat * 3)).off + 2, none⟩ = some (.slice BM (Xb M p).f2.length bM) ∧ w'.cell? (aR.add (p.toNat * 3)) = some (.int .i64 (Xb (XQ D L) p).f0) ∧ w'.cell? ⟨(aR.add (p.toNat * 3)).block, (aR.add (p.toNat * 3)).off + 1, none⟩ = some (.int .i64 (Xb (XQ D L) p).f1) ∧ w'.cell? ⟨(aR.add (p.toNat * 3)).block, (aR.add (p.toNat * 3)).off + 2, none⟩ = some (.slice BR (Xb (XQ D L) p).f2.length bR)) (ds := []) Xm3 zb9 rfl rfl ⟨cc LW2.out x0, cc LW2.out x1, cc LW2.out x2, cc LW2.out x3, cc LW2.out x4, cc LW2.out d0, cc LW2.out d1, cc LW2.out d2, cc LW2.out m0, cc LW2.out m1, cc LW2.out m2, cc LW2.out r0, cc LW2.out r1, cc LW2.out r2⟩ (fun hHeld => ?_); refine XV Xx.XmZ Xx.XeH (fun HT_ HW_ => ?_)
              generalize wc.drew = w20 at LW2 hHeld ⊢; clear z0 z1 z2 z3 z4 LW; refine pu 0 75 Xm4 HT_ ?_; refine tk 1 76 Xm5 HT_ HW_ hHeld ?_; refine pu 2 77 Xm6 HT_ ?_; refine pu 3 78 Xm7 HT_ ?_; refine tk 4 79 Xm8 HT_ HW_ hHeld ?_; refine pu 5 80 Xm9 HT_ ?_; refine pu 6 81 XmA HT_ ?_; refine tk 7 82 XmB HT_ HW_ hHeld ?_; refine pu 8 83 XmC HT_ ?_; refine tk 9 84 XmD HT_ HW_ hHeld ?_; refine pu 10 85 XmE HT_ ?_; refine pu 11 86 XmF HT_ ?_; refine tk 12 87 XmG HT_ HW_ hHeld ?_; refine Zy (i := 13) (N := some 88) XmH rfl rfl (Y6 HT_.out zb9) (by decide) (fun K hK => ?_); refine YW Tryz.func54 zb9 rfl #[.agg #[.int .i64 (Xb M p).f0, .int .i64 (Xb M p).f1, .slice BM (Xb M p).f2.length bM], .agg #[.int .i64 (Xb D p).f0, .int .i64 (Xb D p).f1, .slice BD (Xb D p).f2.length bD]] (by rfl) rfl rfl zb2 ?_
              with_reducible refine (JK.calls 1002 (Xb M p).f0 (Xb M p).f1 BM bM (Xb M p).f2 (Xb D p).f0 (Xb D p).f1 BD bD (Xb D p).f2 false _ (Kd.Xr IM.out LW2.out) JM.out (Kd.Xr ID.out LW2.out) JD.out (hSm ▸ OB (Nat.le_trans (Nat.le_of_eq (HVM.out.ok p hp0 hp5)) (by omega)) (Nat.le_trans (Nat.le_of_eq (HV.out.ok p hp0 hp5)) (by omega)) 1002 (by omega))).mono ?_
              rintro e w30 ⟨rfl, hb⟩; refine ⟨_, rfl, ?_⟩; have LW3 := zz (Xc LW2.out hb); clear hb LW2; refine hK.out _ _ ⟨cc LW3.out x0, cc LW3.out x1, cc LW3.out x2, cc LW3.out x3, cc LW3.out x4, cc LW3.out d0, cc LW3.out d1, cc LW3.out d2, cc LW3.out m0, cc LW3.out m1, cc LW3.out m2, cc LW3.out r0, cc LW3.out r1, cc LW3.out r2⟩ (fun hHeld => ?_); clear hK K; refine XZ (a' := ?_) ?_ ?_; rotate_left
              ·show Act.put _ (some 88) _ = _
               simp only [Act.put, List.setIfInBounds_toArray, List.set_cons_zero, List.set_cons_succ, X9, XK]
               rfl
              refine pu 14 89 XmI HT_ ?_; refine pu 15 90 XmJ HT_ ?_; refine pu 16 91 XmK HT_ ?_; refine pn 17 92 XmL HT_ ?_; refine pn 18 93 XmM HT_ ?_; refine pn 19 94 XmN HT_ ?_; refine pn 20 95 XmO HT_ ?_; refine pn 21 96 XmP HT_ ?_; refine pn 22 97 XmQ HT_ ?_; refine pn 23 98 XmR HT_ ?_; refine pn 24 99 XmS HT_ ?_; refine pn 25 100 XmT HT_ ?_; refine pn 26 101 XmU HT_ ?_; refine pn 27 102 XmV HT_ ?_; refine pn 28 103 XmW HT_ ?_; refine pn 29 104 XmX HT_ ?_; refine pu 30 105 XmY HT_ ?_; refine Zl (YT HT_.out zb9) ?_; clear hHeld
              go_wp2
              go_meet
              case rel => exact ⟨true, rfl, ⟨by rw [Xgf HDS.out HH.out, hSm]; rfl⟩, LW3⟩
             | true =>
              have LW2 : Aside0 (Below w7.heap.size w7 wc.drew) := ⟨X6 LW.out⟩
              refine Y5 (n := 31) (S := fun w' => w'.cell? ⟨w.heap.size, 0, none⟩ = some (.slice (some aD) D.length c0) ∧ w'.cell? ⟨w.heap.size, 1, none⟩ = some (.slice (some aM) M.length c1) ∧ w'.cell? ⟨w.heap.size, 2, none⟩ = some (.slice A2 L.length c2) ∧ w'.cell? ⟨w.heap.size, 3, none⟩ = some (.int .i64 s) ∧ w'.cell? ⟨w.heap.size, 4, none⟩ = some (.bool true) ∧ w'.cell? (aD.add (p.toNat * 3)) = some (.int .i64 (Xb D p).f0) ∧ w'.cell? ⟨(aD.add (p.toNat * 3)).block, (aD.add (p.toNat * 3)).off + 1, none⟩ = some (.int .i64 (Xb D p).f1) ∧ w'.cell? ⟨(aD.add (p.toNat * 3)).block, (aD.add (p.toNat * 3)).off + 2, none⟩ = some (.slice BD (Xb D p).f2.length bD) ∧ w'.cell? (aM.add (p.toNat * 3)) = some (.int .i64 (Xb M p).f0) ∧ w'.cell? ⟨(aM.add (p.toNat * 3)).block, (aM.add (p.toNat * 3)).off + 1, none⟩ = some (.int .i64 (Xb M p).f1) ∧ w'.cell? ⟨(aM.add (p.toNat * 3)).block, (aM.add (p.toNat * 3)).off + 2, none⟩ = some (.slice BM (Xb M p).f2.length bM) ∧ w'.cell? (aR.add (p.toNat * 3)) = some (.int .i64 (Xb (XQ D L) p).f0) ∧ w'.cell? ⟨(aR.add (p.toNat * 3)).block, (aR.add (p.toNat * 3)).off + 1, none⟩ = some (.int .i64 (Xb (XQ D L) p).f1) ∧ w'.cell? ⟨(aR.add (p.toNat * 3)).block, (aR.add (p.toNat * 3)).off + 2, none⟩ = some (.slice BR (Xb (XQ D L) p).f2.length bR)) (ds := []) Xm3 zb9 rfl rfl ⟨cc LW2.out x0, cc LW2.out x1, cc LW2.out x2, cc LW2.out x3, cc LW2.out x4, cc LW2.out d0, cc LW2.out d1, cc LW2.out d2, cc LW2.out m0, cc LW2.out m1, cc LW2.out m2, cc LW2.out r0, cc LW2.out r1, cc LW2.out r2⟩ (fun hHeld => ?_); refine XV Xx.XmZ Xx.XeH (fun HT_ HW_ => ?_)
              generalize wc.drew = w20 at LW2 hHeld ⊢; clear z0 z1 z2 z3 z4 LW; refine pu 0 75 Xm4 HT_ ?_; refine tk 1 76 Xm5 HT_ HW_ hHeld ?_; refine pu 2 77 Xm6 HT_ ?_; refine pu 3 78 Xm7 HT_ ?_; refine tk 4 79 Xm8 HT_ HW_ hHeld ?_; refine pu 5 80 Xm9 HT_ ?_; refine pu 6 81 XmA HT_ ?_; refine tk 7 82 XmB HT_ HW_ hHeld ?_; refine pu 8 83 XmC HT_ ?_; refine tk 9 84 XmD HT_ HW_ hHeld ?_; refine pu 10 85 XmE HT_ ?_; refine pu 11 86 XmF HT_ ?_; refine tk 12 87 XmG HT_ HW_ hHeld ?_; refine Zy (i := 13) (N := some 88) XmH rfl rfl (Y6 HT_.out zb9) (by decide) (fun K hK => ?_); refine YW Tryz.func54 zb9 rfl #[.agg #[.int .i64 (Xb M p).f0, .int .i64 (Xb M p).f1, .slice BM (Xb M p).f2.length bM], .agg #[.int .i64 (Xb D p).f0, .int .i64 (Xb D p).f1, .slice BD (Xb D p).f2.length bD]] (by rfl) rfl rfl zb2 ?_
              with_reducible refine (JK.calls 1002 (Xb M p).f0 (Xb M p).f1 BM bM (Xb M p).f2 (Xb D p).f0 (Xb D p).f1 BD bD (Xb D p).f2 true _ (Kd.Xr IM.out LW2.out) JM.out (Kd.Xr ID.out LW2.out) JD.out (hSm ▸ OB (Nat.le_trans (Nat.le_of_eq (HVM.out.ok p hp0 hp5)) (by omega)) (Nat.le_trans (Nat.le_of_eq (HV.out.ok p hp0 hp5)) (by omega)) 1002 (by omega))).mono ?_
              rintro e w30 ⟨rfl, hb⟩; refine ⟨_, rfl, ?_⟩; have LW3 := zz (Xc LW2.out hb); clear hb LW2; refine hK.out _ _ ⟨cc LW3.out x0, cc LW3.out x1, cc LW3.out x2, cc LW3.out x3, cc LW3.out x4, cc LW3.out d0, cc LW3.out d1, cc LW3.out d2, cc LW3.out m0, cc LW3.out m1, cc LW3.out m2, cc LW3.out r0, cc LW3.out r1, cc LW3.out r2⟩ (fun hHeld => ?_); clear hK K; refine XZ (a' := ?_) ?_ ?_; rotate_left
              ·show Act.put _ (some 88) _ = _
               simp only [Act.put, List.setIfInBounds_toArray, List.set_cons_zero, List.set_cons_succ, X9, XK]
               rfl
              refine pu 14 89 XmI HT_ ?_; refine pu 15 90 XmJ HT_ ?_; refine pu 16 91 XmK HT_ ?_; refine pu 17 92 XmL HT_ ?_; refine tk 18 93 XmM HT_ HW_ hHeld ?_; refine pu 19 94 XmN HT_ ?_; refine pu 20 95 XmO HT_ ?_; refine pn 21 96 XmP HT_ ?_; refine pn 22 97 XmQ HT_ ?_; refine pn 23 98 XmR HT_ ?_; refine pn 24 99 XmS HT_ ?_; refine pn 25 100 XmT HT_ ?_; refine pn 26 101 XmU HT_ ?_; refine pn 27 102 XmV HT_ ?_; refine pn 28 103 XmW HT_ ?_; refine pu 29 104 XmX HT_ ?_; refine pu 30 105 XmY HT_ ?_; refine Zl (YT HT_.out zb9) ?_; clear hHeld
              go_wp2
              go_meet
              case rel => exact ⟨false, rfl, ⟨by rw [Xgf HDS.out HH.out, hSm]; rfl⟩, LW3⟩
            | false =>
             cases hMm : (if Vd L p = true then (DU D M L p && (pg M p).f1 == (pg (XQ D L) p).f1) else VW (pg M p) (pg (XQ D L) p)) with
             | false =>
              have LW2 : Aside0 (Below w7.heap.size w7 wc.drew) := ⟨X6 LW.out⟩
              refine Y5 (n := 31) (S := fun w' => w'.cell? ⟨w.heap.size, 0, none⟩ = some (.slice (some aD) D.length c0) ∧ w'.cell? ⟨w.heap.size, 1, none⟩ = some (.slice (some aM) M.length c1) ∧ w'.cell? ⟨w.heap.size, 2, none⟩ = some (.slice A2 L.length c2) ∧ w'.cell? ⟨w.heap.size, 3, none⟩ = some (.int .i64 s) ∧ w'.cell? ⟨w.heap.size, 4, none⟩ = some (.bool false) ∧ w'.cell? (aD.add (p.toNat * 3)) = some (.int .i64 (Xb D p).f0) ∧ w'.cell? ⟨(aD.add (p.toNat * 3)).block, (aD.add (p.toNat * 3)).off + 1, none⟩ = some (.int .i64 (Xb D p).f1) ∧ w'.cell? ⟨(aD.add (p.toNat * 3)).block, (aD.add (p.toNat * 3)).off + 2, none⟩ = some (.slice BD (Xb D p).f2.length bD) ∧ w'.cell? (aM.add (p.toNat * 3)) = some (.int .i64 (Xb M p).f0) ∧ w'.cell? ⟨(aM.add (p.toNat * 3)).block, (aM.add (p.toNat * 3)).off + 1, none⟩ = some (.int .i64 (Xb M p).f1) ∧ w'.cell? ⟨(aM.add (p.toNat * 3)).block, (aM.add (p.toNat * 3)).off + 2, none⟩ = some (.slice BM (Xb M p).f2.length bM) ∧ w'.cell? (aR.add (p.toNat * 3)) = some (.int .i64 (Xb (XQ D L) p).f0) ∧ w'.cell? ⟨(aR.add (p.toNat * 3)).block, (aR.add (p.toNat * 3)).off + 1, none⟩ = some (.int .i64 (Xb (XQ D L) p).f1) ∧ w'.cell? ⟨(aR.add (p.toNat * 3)).block, (aR.add (p.toNat * 3)).off + 2, none⟩ = some (.slice BR (Xb (XQ D L) p).f2.length bR)) (ds := []) Xm3 zb9 rfl rfl ⟨cc LW2.out x0, cc LW2.out x1, cc LW2.out x2, cc LW2.out x3, cc LW2.out x4, cc LW2.out d0, cc LW2.out d1, cc LW2.out d2, cc LW2.out m0, cc LW2.out m1, cc LW2.out m2, cc LW2.out r0, cc LW2.out r1, cc LW2.out r2⟩ (fun hHeld => ?_); refine XV Xx.XmZ Xx.XeH (fun HT_ HW_ => ?_)
              generalize wc.drew = w20 at LW2 hHeld ⊢; clear z0 z1 z2 z3 z4 LW; refine pu 0 75 Xm4 HT_ ?_; refine tk 1 76 Xm5 HT_ HW_ hHeld ?_; refine pu 2 77 Xm6 HT_ ?_; refine pn 3 78 Xm7 HT_ ?_; refine pn 4 79 Xm8 HT_ ?_; refine pn 5 80 Xm9 HT_ ?_; refine pn 6 81 XmA HT_ ?_; refine pn 7 82 XmB HT_ ?_; refine pn 8 83 XmC HT_ ?_; refine pn 9 84 XmD HT_ ?_; refine pn 10 85 XmE HT_ ?_; refine pn 11 86 XmF HT_ ?_; refine pn 12 87 XmG HT_ ?_; refine pn 13 88 XmH HT_ ?_; refine pn 14 89 XmI HT_ ?_; refine pu 15 90 XmJ HT_ ?_; refine pu 16 91 XmK HT_ ?_; refine pu 17 92 XmL HT_ ?_; refine tk 18 93 XmM HT_ HW_ hHeld ?_; refine pu 19 94 XmN HT_ ?_; refine pu 20 95 XmO HT_ ?_; refine tk 21 96 XmP HT_ HW_ hHeld ?_; refine pu 22 97 XmQ HT_ ?_; refine pu 23 98 XmR HT_ ?_; refine pu 24 99 XmS HT_ ?_; refine pu 25 100 XmT HT_ ?_; refine tk 26 101 XmU HT_ HW_ hHeld ?_; refine Zy (i := 27) (N := some 102) XmV rfl rfl (Y6 HT_.out zb9) (by decide) (fun K hK => ?_); refine YW Tryz.func55 zb9 rfl #[.agg #[.slice (some aD) D.length c0, .slice (some aM) M.length c1, .slice A2 L.length c2, .int .i64 s, .bool false], .int .i64 p, .agg #[.int .i64 (Xb (XQ D L) p).f0, .int .i64 (Xb (XQ D L) p).f1, .slice BR (Xb (XQ D L) p).f2.length bR]] (by rfl) rfl rfl zb2 ?_
              with_reducible refine (Eu (some aD) c0 D (some aM) c1 M A2 c2 L s false p (pg (XQ D L) p) BR bR _ (Kd.Xr CD.out LW2.out) (Kd.Xr CM.out LW2.out) (Kd.Xr CL.out LW2.out) HCL.out (Kd.Xr IR.out LW2.out) JR.out (Nat.le_trans (Nat.le_of_eq ((Sm HV.out hg2).ok p hp0 hp5)) (by omega)) HV.out HVM.out hg2 hp0 hp5).mono ?_
              rintro e w30 ⟨he, hb⟩; rw [hMm] at he; subst he; refine ⟨_, rfl, ?_⟩; have LW3 := zz (Xc LW2.out hb); clear hb LW2; refine hK.out _ _ ⟨cc LW3.out x0, cc LW3.out x1, cc LW3.out x2, cc LW3.out x3, cc LW3.out x4, cc LW3.out d0, cc LW3.out d1, cc LW3.out d2, cc LW3.out m0, cc LW3.out m1, cc LW3.out m2, cc LW3.out r0, cc LW3.out r1, cc LW3.out r2⟩ (fun hHeld => ?_); clear hK K; refine XZ (a' := ?_) ?_ ?_; rotate_left
              ·show Act.put _ (some 102) _ = _
               simp only [Act.put, List.setIfInBounds_toArray, List.set_cons_zero, List.set_cons_succ, X9, XK]
               rfl
              refine pu 28 103 XmW HT_ ?_; refine pu 29 104 XmX HT_ ?_; refine pu 30 105 XmY HT_ ?_; refine Zl (YT HT_.out zb9) ?_; clear hHeld
              go_wp2
              go_meet
              case rel => exact ⟨true, rfl, ⟨by rw [Xge HDS.out HH.out, hMm]; rfl⟩, LW3⟩
             | true =>
              have LW2 : Aside0 (Below w7.heap.size w7 wc.drew) := ⟨X6 LW.out⟩
              refine Y5 (n := 31) (S := fun w' => w'.cell? ⟨w.heap.size, 0, none⟩ = some (.slice (some aD) D.length c0) ∧ w'.cell? ⟨w.heap.size, 1, none⟩ = some (.slice (some aM) M.length c1) ∧ w'.cell? ⟨w.heap.size, 2, none⟩ = some (.slice A2 L.length c2) ∧ w'.cell? ⟨w.heap.size, 3, none⟩ = some (.int .i64 s) ∧ w'.cell? ⟨w.heap.size, 4, none⟩ = some (.bool false) ∧ w'.cell? (aD.add (p.toNat * 3)) = some (.int .i64 (Xb D p).f0) ∧ w'.cell? ⟨(aD.add (p.toNat * 3)).block, (aD.add (p.toNat * 3)).off + 1, none⟩ = some (.int .i64 (Xb D p).f1) ∧ w'.cell? ⟨(aD.add (p.toNat * 3)).block, (aD.add (p.toNat * 3)).off + 2, none⟩ = some (.slice BD (Xb D p).f2.length bD) ∧ w'.cell? (aM.add (p.toNat * 3)) = some (.int .i64 (Xb M p).f0) ∧ w'.cell? ⟨(aM.add (p.toNat * 3)).block, (aM.add (p.toNat * 3)).off + 1, none⟩ = some (.int .i64 (Xb M p).f1) ∧ w'.cell? ⟨(aM.add (p.toNat * 3)).block, (aM.add (p.toNat * 3)).off + 2, none⟩ = some (.slice BM (Xb M p).f2.length bM) ∧ w'.cell? (aR.add (p.toNat * 3)) = some (.int .i64 (Xb (XQ D L) p).f0) ∧ w'.cell? ⟨(aR.add (p.toNat * 3)).block, (aR.add (p.toNat * 3)).off + 1, none⟩ = some (.int .i64 (Xb (XQ D L) p).f1) ∧ w'.cell? ⟨(aR.add (p.toNat * 3)).block, (aR.add (p.toNat * 3)).off + 2, none⟩ = some (.slice BR (Xb (XQ D L) p).f2.length bR)) (ds := []) Xm3 zb9 rfl rfl ⟨cc LW2.out x0, cc LW2.out x1, cc LW2.out x2, cc LW2.out x3, cc LW2.out x4, cc LW2.out d0, cc LW2.out d1, cc LW2.out d2, cc LW2.out m0, cc LW2.out m1, cc LW2.out m2, cc LW2.out r0, cc LW2.out r1, cc LW2.out r2⟩ (fun hHeld => ?_); refine XV Xx.XmZ Xx.XeH (fun HT_ HW_ => ?_)
              generalize wc.drew = w20 at LW2 hHeld ⊢; clear z0 z1 z2 z3 z4 LW; refine pu 0 75 Xm4 HT_ ?_; refine tk 1 76 Xm5 HT_ HW_ hHeld ?_; refine pu 2 77 Xm6 HT_ ?_; refine pn 3 78 Xm7 HT_ ?_; refine pn 4 79 Xm8 HT_ ?_; refine pn 5 80 Xm9 HT_ ?_; refine pn 6 81 XmA HT_ ?_; refine pn 7 82 XmB HT_ ?_; refine pn 8 83 XmC HT_ ?_; refine pn 9 84 XmD HT_ ?_; refine pn 10 85 XmE HT_ ?_; refine pn 11 86 XmF HT_ ?_; refine pn 12 87 XmG HT_ ?_; refine pn 13 88 XmH HT_ ?_; refine pn 14 89 XmI HT_ ?_; refine pu 15 90 XmJ HT_ ?_; refine pu 16 91 XmK HT_ ?_; refine pu 17 92 XmL HT_ ?_; refine tk 18 93 XmM HT_ HW_ hHeld ?_; refine pu 19 94 XmN HT_ ?_; refine pu 20 95 XmO HT_ ?_; refine tk 21 96 XmP HT_ HW_ hHeld ?_; refine pu 22 97 XmQ HT_ ?_; refine pu 23 98 XmR HT_ ?_; refine pu 24 99 XmS HT_ ?_; refine pu 25 100 XmT HT_ ?_; refine tk 26 101 XmU HT_ HW_ hHeld ?_; refine Zy (i := 27) (N := some 102) XmV rfl rfl (Y6 HT_.out zb9) (by decide) (fun K hK => ?_); refine YW Tryz.func55 zb9 rfl #[.agg #[.slice (some aD) D.length c0, .slice (some aM) M.length c1, .slice A2 L.length c2, .int .i64 s, .bool false], .int .i64 p, .agg #[.int .i64 (Xb (XQ D L) p).f0, .int .i64 (Xb (XQ D L) p).f1, .slice BR (Xb (XQ D L) p).f2.length bR]] (by rfl) rfl rfl zb2 ?_
              with_reducible refine (Eu (some aD) c0 D (some aM) c1 M A2 c2 L s false p (pg (XQ D L) p) BR bR _ (Kd.Xr CD.out LW2.out) (Kd.Xr CM.out LW2.out) (Kd.Xr CL.out LW2.out) HCL.out (Kd.Xr IR.out LW2.out) JR.out (Nat.le_trans (Nat.le_of_eq ((Sm HV.out hg2).ok p hp0 hp5)) (by omega)) HV.out HVM.out hg2 hp0 hp5).mono ?_
              rintro e w30 ⟨he, hb⟩; rw [hMm] at he; subst he; refine ⟨_, rfl, ?_⟩; have LW3 := zz (Xc LW2.out hb); clear hb LW2; refine hK.out _ _ ⟨cc LW3.out x0, cc LW3.out x1, cc LW3.out x2, cc LW3.out x3, cc LW3.out x4, cc LW3.out d0, cc LW3.out d1, cc LW3.out d2, cc LW3.out m0, cc LW3.out m1, cc LW3.out m2, cc LW3.out r0, cc LW3.out r1, cc LW3.out r2⟩ (fun hHeld => ?_); clear hK K; refine XZ (a' := ?_) ?_ ?_; rotate_left
              ·show Act.put _ (some 102) _ = _
               simp only [Act.put, List.setIfInBounds_toArray, List.set_cons_zero, List.set_cons_succ, X9, XK]
               rfl
              refine pu 28 103 XmW HT_ ?_; refine pu 29 104 XmX HT_ ?_; refine pu 30 105 XmY HT_ ?_; refine Zl (YT HT_.out zb9) ?_; clear hHeld
              go_wp2
              go_meet
              case rel => exact ⟨false, rfl, ⟨by rw [Xge HDS.out HH.out, hMm]; rfl⟩, LW3⟩
           case rest =>
            clear LW z0 z1 z2 z3 z4; obtain ⟨b1, rfl, hb1, LW⟩ := hcut; have z0 := cc LW.out x0; have z1 := cc LW.out x1; have z2 := cc LW.out x2; have z3 := cc LW.out x3; have z4 := cc LW.out x4
            cases b1 with
            | true =>
             go_wp2
             go_ret
             exact ⟨by rw [show b = false from by rw [← HBv.out, Sn p.toNat (by omega) (by rw [hnp.out]; exact hb1.out)]]; first | done | rfl, Xc LB7.out LW.out⟩
            | false =>
             have hwp : wrap64 (p + 1) = p + 1 := T.wrap_small (by omega) (by omega); have hwp2 : IntKind.i64.wrap (p + 1) = p + 1 := (X9 _).trans hwp
             go_wp2
             go_roundg k1
             case measure => omega
             case rel => exact ⟨p + 1, rfl, ⟨by omega, by have := hp.out; omega⟩, ⟨fun m h1 h2 => by
              by_cases e : (m : Int) = p
              ·rw [e]; exact hb1.out
              ·exact hB.out m h1 (by omega)⟩, LW⟩
end Go.Proofs.YtphnphmbfogmlaaGreat.Pr
