import Derived.Test.YtphnphmbfogmlaaGreatQFByq
import Derived.Test.YtphnphmbfogmlaaGreatQFSx
import Derived.Test.YtphnphmbfogmlaaGreatQFPrWith
import Derived.Test.YtphnphmbfogmlaaGreatQFMemI
import Derived.Test.YtphnphmbfogmlaaGreatQFPfxI
set_option linter.unusedVariables false
set_option linter.unusedSimpArgs false
namespace Go.Proofs.YtphnphmbfogmlaaGreat.T
theorem Xrk {D M : List Pg} {L : List Rc} {s : Int} {d : Bool} (h : MF D L s = false) : Jm D M L s d = false := by
 unfold Jm
 rw [show (List.range (L.length + 1)).all (fun n => decide ((n : Int) < s) || preB D (L.take n)) = false from h]
 simp
theorem XmI {D M : List Pg} {L : List Rc} {s : Int} {d : Bool} (h0 : Vr D M L s = true) (h : MF D L s = true) (h2 : ∀ p : Nat, p < 5 → Vq D M L s d (p : Int) = true) : Jm D M L s d = true := by
 unfold Jm
 rw [h0, show (List.range (L.length + 1)).all (fun n => decide ((n : Int) < s) || preB D (L.take n)) = true from h, Bool.true_and, Bool.true_and, List.all_eq_true]; intro p hp; exact h2 p (by simpa using hp)
theorem Xc3 {D M : List Pg} {L : List Rc} {s : Int} {p : Int} (h1 : (pg D p).f0 ≤ s) (h2 : Mj L p ≤ 1) : Vq D M L s false p = (if JL L p = true then (De D M L p && (pg M p).f1 == (pg (XE D L) p).f1) else VC (pg M p) (pg (XE D L) p)) := by
 unfold Vq
 rw [decide_eq_true h1, decide_eq_true h2, Bool.true_and, Bool.true_and, if_neg (by simp)]
theorem Xc4 {D M : List Pg} {L : List Rc} {s : Int} {p : Int} (h1 : (pg D p).f0 ≤ s) (h2 : Mj L p ≤ 1) : Vq D M L s true p = VC (pg M p) (pg D p) := by
 unfold Vq
 rw [decide_eq_true h1, decide_eq_true h2, Bool.true_and, Bool.true_and, if_pos rfl]
end Go.Proofs.YtphnphmbfogmlaaGreat.T
namespace Go.Proofs.YtphnphmbfogmlaaGreat.Pr
open Go.RowKit Go.PW Go.PL Go.PM Go.Proofs.YtphnphmbfogmlaaGreat.T
attribute [local go_sem] Y3 Y4 YN YO Ya Yb Y5 Y6
abbrev XtX : Array Bool := #[nn,nn,nn,nn,nn,nn,nn,nn,nn,nn,nn,nn,nn]
abbrev XtY : Array Bool := #[yy,nn,nn,nn,nn,nn,nn,nn,nn,nn,nn,nn,nn]
abbrev XtZ : Array Bool := #[yy,yy,nn,nn,nn,nn,nn,nn,nn,nn,nn,nn,nn]
abbrev Xua : Array Bool := #[yy,yy,yy,nn,nn,nn,nn,nn,nn,nn,nn,nn,nn]
abbrev Xub : Array Bool := #[yy,yy,yy,yy,nn,nn,nn,nn,nn,nn,nn,nn,nn]
abbrev Xuc : Array Bool := #[yy,yy,yy,yy,yy,nn,nn,nn,nn,nn,nn,nn,nn]
abbrev Xud : Array Bool := #[yy,yy,yy,yy,yy,yy,nn,nn,nn,nn,nn,nn,nn]
abbrev Xue : Array Bool := #[yy,yy,yy,yy,yy,yy,yy,nn,nn,nn,nn,nn,nn]
abbrev Xuf : Array Bool := #[yy,yy,yy,yy,yy,yy,yy,yy,nn,nn,nn,nn,nn]
abbrev Xug : Array Bool := #[yy,yy,yy,yy,yy,yy,yy,yy,yy,nn,nn,nn,nn]
abbrev XmJ : Array Bool := #[yy,yy,yy,yy,yy,yy,yy,yy,yy,yy,nn,nn,nn]
abbrev XmK : Array Bool := #[yy,yy,yy,yy,yy,yy,yy,yy,yy,yy,yy,nn,nn]
abbrev XmL : Array Bool := #[yy,yy,yy,yy,yy,yy,yy,yy,yy,yy,yy,yy,nn]
abbrev XmM : Array Bool := #[yy,yy,yy,yy,yy,yy,yy,yy,yy,yy,yy,yy,yy]
abbrev XiI : Array Bool := #[nn,nn,nn,nn,nn,nn,nn,nn,nn,nn,nn,nn,nn,nn,nn,nn,nn,nn,nn,nn,nn,nn,nn,nn,nn,nn,nn,nn,nn,nn,nn]
abbrev XiJ : Array Bool := #[yy,nn,nn,nn,nn,nn,nn,nn,nn,nn,nn,nn,nn,nn,nn,nn,nn,nn,nn,nn,nn,nn,nn,nn,nn,nn,nn,nn,nn,nn,nn]
abbrev XiK : Array Bool := #[yy,yy,nn,nn,nn,nn,nn,nn,nn,nn,nn,nn,nn,nn,nn,nn,nn,nn,nn,nn,nn,nn,nn,nn,nn,nn,nn,nn,nn,nn,nn]
abbrev XiL : Array Bool := #[yy,yy,yy,nn,nn,nn,nn,nn,nn,nn,nn,nn,nn,nn,nn,nn,nn,nn,nn,nn,nn,nn,nn,nn,nn,nn,nn,nn,nn,nn,nn]
abbrev XiM : Array Bool := #[yy,yy,yy,yy,nn,nn,nn,nn,nn,nn,nn,nn,nn,nn,nn,nn,nn,nn,nn,nn,nn,nn,nn,nn,nn,nn,nn,nn,nn,nn,nn]
abbrev XiN : Array Bool := #[yy,yy,yy,yy,yy,nn,nn,nn,nn,nn,nn,nn,nn,nn,nn,nn,nn,nn,nn,nn,nn,nn,nn,nn,nn,nn,nn,nn,nn,nn,nn]
abbrev XiO : Array Bool := #[yy,yy,yy,yy,yy,yy,nn,nn,nn,nn,nn,nn,nn,nn,nn,nn,nn,nn,nn,nn,nn,nn,nn,nn,nn,nn,nn,nn,nn,nn,nn]
abbrev XiP : Array Bool := #[yy,yy,yy,yy,yy,yy,yy,nn,nn,nn,nn,nn,nn,nn,nn,nn,nn,nn,nn,nn,nn,nn,nn,nn,nn,nn,nn,nn,nn,nn,nn]
abbrev XiQ : Array Bool := #[yy,yy,yy,yy,yy,yy,yy,yy,nn,nn,nn,nn,nn,nn,nn,nn,nn,nn,nn,nn,nn,nn,nn,nn,nn,nn,nn,nn,nn,nn,nn]
abbrev XiR : Array Bool := #[yy,yy,yy,yy,yy,yy,yy,yy,yy,nn,nn,nn,nn,nn,nn,nn,nn,nn,nn,nn,nn,nn,nn,nn,nn,nn,nn,nn,nn,nn,nn]
abbrev XiS : Array Bool := #[yy,yy,yy,yy,yy,yy,yy,yy,yy,yy,nn,nn,nn,nn,nn,nn,nn,nn,nn,nn,nn,nn,nn,nn,nn,nn,nn,nn,nn,nn,nn]
abbrev XiT : Array Bool := #[yy,yy,yy,yy,yy,yy,yy,yy,yy,yy,yy,nn,nn,nn,nn,nn,nn,nn,nn,nn,nn,nn,nn,nn,nn,nn,nn,nn,nn,nn,nn]
abbrev XiU : Array Bool := #[yy,yy,yy,yy,yy,yy,yy,yy,yy,yy,yy,yy,nn,nn,nn,nn,nn,nn,nn,nn,nn,nn,nn,nn,nn,nn,nn,nn,nn,nn,nn]
abbrev XiV : Array Bool := #[yy,yy,yy,yy,yy,yy,yy,yy,yy,yy,yy,yy,yy,nn,nn,nn,nn,nn,nn,nn,nn,nn,nn,nn,nn,nn,nn,nn,nn,nn,nn]
abbrev XiW : Array Bool := #[yy,yy,yy,yy,yy,yy,yy,yy,yy,yy,yy,yy,yy,yy,nn,nn,nn,nn,nn,nn,nn,nn,nn,nn,nn,nn,nn,nn,nn,nn,nn]
abbrev XiX : Array Bool := #[yy,yy,yy,yy,yy,yy,yy,yy,yy,yy,yy,yy,yy,yy,yy,nn,nn,nn,nn,nn,nn,nn,nn,nn,nn,nn,nn,nn,nn,nn,nn]
abbrev XiY : Array Bool := #[yy,yy,yy,yy,yy,yy,yy,yy,yy,yy,yy,yy,yy,yy,yy,yy,nn,nn,nn,nn,nn,nn,nn,nn,nn,nn,nn,nn,nn,nn,nn]
abbrev XiZ : Array Bool := #[yy,yy,yy,yy,yy,yy,yy,yy,yy,yy,yy,yy,yy,yy,yy,yy,yy,nn,nn,nn,nn,nn,nn,nn,nn,nn,nn,nn,nn,nn,nn]
abbrev Xja : Array Bool := #[yy,yy,yy,yy,yy,yy,yy,yy,yy,yy,yy,yy,yy,yy,yy,yy,yy,yy,nn,nn,nn,nn,nn,nn,nn,nn,nn,nn,nn,nn,nn]
abbrev Xjb : Array Bool := #[yy,yy,yy,yy,yy,yy,yy,yy,yy,yy,yy,yy,yy,yy,yy,yy,yy,yy,yy,nn,nn,nn,nn,nn,nn,nn,nn,nn,nn,nn,nn]
abbrev Xjc : Array Bool := #[yy,yy,yy,yy,yy,yy,yy,yy,yy,yy,yy,yy,yy,yy,yy,yy,yy,yy,yy,yy,nn,nn,nn,nn,nn,nn,nn,nn,nn,nn,nn]
abbrev Xjd : Array Bool := #[yy,yy,yy,yy,yy,yy,yy,yy,yy,yy,yy,yy,yy,yy,yy,yy,yy,yy,yy,yy,yy,nn,nn,nn,nn,nn,nn,nn,nn,nn,nn]
abbrev Xje : Array Bool := #[yy,yy,yy,yy,yy,yy,yy,yy,yy,yy,yy,yy,yy,yy,yy,yy,yy,yy,yy,yy,yy,yy,nn,nn,nn,nn,nn,nn,nn,nn,nn]
abbrev Xjf : Array Bool := #[yy,yy,yy,yy,yy,yy,yy,yy,yy,yy,yy,yy,yy,yy,yy,yy,yy,yy,yy,yy,yy,yy,yy,nn,nn,nn,nn,nn,nn,nn,nn]
abbrev Xjg : Array Bool := #[yy,yy,yy,yy,yy,yy,yy,yy,yy,yy,yy,yy,yy,yy,yy,yy,yy,yy,yy,yy,yy,yy,yy,yy,nn,nn,nn,nn,nn,nn,nn]
abbrev Xjh : Array Bool := #[yy,yy,yy,yy,yy,yy,yy,yy,yy,yy,yy,yy,yy,yy,yy,yy,yy,yy,yy,yy,yy,yy,yy,yy,yy,nn,nn,nn,nn,nn,nn]
abbrev Xji : Array Bool := #[yy,yy,yy,yy,yy,yy,yy,yy,yy,yy,yy,yy,yy,yy,yy,yy,yy,yy,yy,yy,yy,yy,yy,yy,yy,yy,nn,nn,nn,nn,nn]
abbrev Xjj : Array Bool := #[yy,yy,yy,yy,yy,yy,yy,yy,yy,yy,yy,yy,yy,yy,yy,yy,yy,yy,yy,yy,yy,yy,yy,yy,yy,yy,yy,nn,nn,nn,nn]
abbrev Xjk : Array Bool := #[yy,yy,yy,yy,yy,yy,yy,yy,yy,yy,yy,yy,yy,yy,yy,yy,yy,yy,yy,yy,yy,yy,yy,yy,yy,yy,yy,yy,nn,nn,nn]
abbrev Xjl : Array Bool := #[yy,yy,yy,yy,yy,yy,yy,yy,yy,yy,yy,yy,yy,yy,yy,yy,yy,yy,yy,yy,yy,yy,yy,yy,yy,yy,yy,yy,yy,nn,nn]
abbrev Xjm : Array Bool := #[yy,yy,yy,yy,yy,yy,yy,yy,yy,yy,yy,yy,yy,yy,yy,yy,yy,yy,yy,yy,yy,yy,yy,yy,yy,yy,yy,yy,yy,yy,nn]
abbrev Xjn : Array Bool := #[yy,yy,yy,yy,yy,yy,yy,yy,yy,yy,yy,yy,yy,yy,yy,yy,yy,yy,yy,yy,yy,yy,yy,yy,yy,yy,yy,yy,yy,yy,yy]
def X3.T8 : Bool × List (List Nat × List Nat) := (true, [([], []), ([0], [0]), ([1], [1]), ([2], [2]), ([3, 2], [2, 3]), ([2], [2]), ([4, 5, 2], [2, 4, 5]), ([6, 2], [2, 6]), ([7, 2], [2, 7]), ([2], [2]), ([9, 2], [2, 9]), ([8, 10, 2], [2, 8, 10]), ([2, 11], [2, 11])])
def X3.B8 : List Nat := [0, 1, 3, 7, 15, 7, 63, 127, 255, 7, 519, 2047, 4095]
theorem X3.Xfo : JH .any (opsOf Tryz.f27 8) = X3.T8 := by kernel_rfl
theorem X3.BS : Z4 X3.T8.2 X3.B8 = true := by kernel_rfl
def X3.T10 : Bool × List (List Nat × List Nat) := (true, [([], []), ([0], [0]), ([1], [1]), ([2], [2]), ([3, 2], [2, 3]), ([2], [2]), ([4, 5, 2], [2, 4, 5]), ([6, 2], [2, 6]), ([2], [2]), ([8, 2], [2, 8]), ([2], [2]), ([9, 10, 2], [2, 9, 10]), ([11, 2], [2, 11]), ([7, 12, 2, 2], [2, 7, 12]), ([13, 2], [2, 13]), ([2, 14], [2, 14]), ([15, 13], [15]), ([16], [16]), ([17, 16], [16, 17]), ([18, 16], [16, 18]), ([19, 16, 16], [16, 19]), ([20], [20]), ([20], [20]), ([20], [20]), ([20], [20]), ([23, 24, 20], [20, 23, 24]), ([25, 20], [20, 25]), ([21, 22, 26, 20, 20], [20, 21, 22, 26]), ([27, 20], [20, 27]), ([20, 28, 16], [16, 20, 28]), ([16, 29], [16, 29])])
def X3.B10 : List Nat := [0, 1, 3, 7, 15, 7, 63, 127, 7, 263, 7, 1799, 3847, 8191, 16383, 32767, 65535, 131071, 262143, 524287, 1048575, 2097151, 2097151, 2097151, 2097151, 27262975, 60817407, 134217727, 268435455, 536870911, 1073741823]
theorem X3.Tk : JH .any (opsOf Tryz.f27 10) = X3.T10 := by kernel_rfl
theorem X3.NA : Z4 X3.T10.2 X3.B10 = true := by kernel_rfl
set_option maxHeartbeats 8000000 in
set_option maxRecDepth 100000 in
theorem X3.to (A0 : Option Addr) (c0 : Nat) (D : List S56) (A1 : Option Addr) (c1 : Nat) (M : List S56) (A2 : Option Addr) (c2 : Nat) (L : List S76) (s : Int) (d : Bool) (w : World) (hD : Kd.C k56 w A0 D.length D) (hc0 : D.length ≤ c0) (hM : Kd.C k56 w A1 M.length M) (hc1 : M.length ≤ c1) (hL : Kd.C k76 w A2 L.length L) (hc2 : L.length ≤ c2) :
 Calls Tryz.prog 27 #[.agg #[.slice A0 D.length c0, .slice A1 M.length c1, .slice A2 L.length c2, .int .i64 s, .bool d]] w fun e w' => e = .returned (.bool (Jm D M L s d)) ∧ Below w.heap.size w w' := by
 obtain ⟨b, hbv⟩ : ∃ b, Jm D M L s d = b := ⟨_, rfl⟩
 rw [hbv]; have HBv := zz hbv; clear hbv; have hu31 := Tryz.underlying31; have hu41 := Tryz.underlying76; have hu25 := Tryz.underlying56; have HD := zz hD; have HM := zz hM; have HL := zz hL; have HCD := zz hc0; have HCM := zz hc1; have HCL := zz hc2; clear hD hM hL hc0 hc1 hc2
 go_enter Tryz.func27, Tryz.ntmps27
 go_wp2_with fail
 have BE0 : Aside0 (U5 (w.alloc (.cells #[.slice A0 D.length c0, .slice A1 M.length c1, .slice A2 L.length c2, .int .i64 s, .bool d] 31)) w.heap.size (.slice A0 D.length c0) (.slice A1 M.length c1) (.slice A2 L.length c2) s d) := ⟨U5.new _ _ _ _ _ _⟩
 have LB0 := zz (Xj (Below.refl w.heap.size w) (.cells #[.slice A0 D.length c0, .slice A1 M.length c1, .slice A2 L.length c2, .int .i64 s, .bool d] 31)); refine (UZ A0 c0 D _ (Kd.Xg HD.out LB0.out) HCD.out).mono ?_; rintro e w1 ⟨rfl, hb⟩; have BE1 := zz (BE0.out.below hb); have LB1 := zz (Xc LB0.out hb); clear hb BE0 LB0; obtain ⟨x0, x1, x2, x3, x4⟩ := BE1.out.cells
 cases hg0 : Ji D with
 | false =>
  go_wp2
  go_ret
  exact ⟨by rw [show b = false from by rw [← HBv.out, JY (by unfold Vr; rw [hg0]; rfl)]]; first | done | rfl, LB1.out⟩
 | true =>
  have HV := zz (Uv hg0)
  go_wp2_with fail
  refine (UZ A1 c1 M _ (Kd.Xg HM.out LB1.out) HCM.out).mono ?_; rintro e w2 ⟨rfl, hb⟩; have BE2 := zz (BE1.out.below hb); have LB2 := zz (Xc LB1.out hb); clear hb BE1 LB1 x0 x1 x2 x3 x4; obtain ⟨x0, x1, x2, x3, x4⟩ := BE2.out.cells
  cases hg1 : Ji M with
  | false =>
   go_wp2
   go_ret
   exact ⟨by rw [show b = false from by rw [← HBv.out, JY (by unfold Vr; rw [hg0, hg1]; rfl)]]; first | done | rfl, LB2.out⟩
  | true =>
   have HVM := zz (Uv hg1)
   go_wp2_with fail
   refine (TD A2 c2 L _ (Kd.Xg HL.out LB2.out) HCL.out).mono ?_; rintro e w3 ⟨rfl, hb⟩; have BE3 := zz (BE2.out.below hb); have LB3 := zz (Xc LB2.out hb); clear hb BE2 LB2 x0 x1 x2 x3 x4; obtain ⟨x0, x1, x2, x3, x4⟩ := BE3.out.cells
   cases hg2 : YP L with
   | false =>
    go_wp2
    go_ret
    exact ⟨by rw [show b = false from by rw [← HBv.out, JY (by unfold Vr; rw [hg0, hg1, hg2]; rfl)]]; first | done | rfl, LB3.out⟩
   | true =>
    go_wp2_with fail
    refine (Uz s 0 (L.length : Int) _).mono ?_; rintro e w4 ⟨rfl, hw⟩
    have hb : Below w3.heap.size w3 w4 := by rw [← hw]; exact Below.refl _ _
    have BE4 := zz (BE3.out.below hb); have LB4 := zz (Xc LB3.out hb); clear hb BE3 LB3 hw x0 x1 x2 x3 x4; obtain ⟨x0, x1, x2, x3, x4⟩ := BE4.out.cells
    cases hg3 : inB s 0 (L.length : Int) with
    | false =>
     go_wp2
     go_ret
     exact ⟨by rw [show b = false from by rw [← HBv.out, JY (by unfold Vr; rw [hg0, hg1, hg2, hg3]; rfl)]]; first | done | rfl, LB4.out⟩
    | true =>
     go_wp2_with fail
     refine (Mi.calls 1000 A2 c2 L (decide (L.length + Uu L ≤ 150)) _ (Kd.Xg HL.out LB4.out) HCL.out (Xfk hg2 1000 (by omega))).mono ?_; rintro e w5 ⟨rfl, hb⟩; have BE5 := zz (BE4.out.below hb); have LB5 := zz (Xc LB4.out hb); clear hb BE4 LB4 x0 x1 x2 x3 x4; obtain ⟨x0, x1, x2, x3, x4⟩ := BE5.out.cells
     cases hg4 : decide (L.length + Uu L ≤ 150) with
     | false =>
      go_wp2
      go_ret
      exact ⟨by rw [show b = false from by rw [← HBv.out, JY (by unfold Vr; rw [hg0, hg1, hg2, hg3, hg4]; rfl)]]; first | done | rfl, LB5.out⟩
     | true =>
      go_wp2_with fail
      refine (KD A0 c0 D A1 c1 M A2 c2 L s d _ (Kd.Xg HD.out LB5.out) HCD.out (Kd.Xg HL.out LB5.out) HCL.out HV.out hg2 (Db.mp hg3).1 (Db.mp hg3).2).mono ?_; rintro e w6 ⟨rfl, hb⟩; have BE6 := zz (BE5.out.below hb); have LB6 := zz (Xc LB5.out hb); clear hb BE5 LB5 x0 x1 x2 x3 x4; obtain ⟨x0, x1, x2, x3, x4⟩ := BE6.out.cells
      cases hg5 : MF D L s with
      | false =>
       go_wp2
       go_ret
       exact ⟨by rw [show b = false from by rw [← HBv.out, Xrk hg5]]; first | done | rfl, LB6.out⟩
      | true =>
       have hH : Vr D M L s = true := by unfold Vr; rw [hg0, hg1, hg2, hg3, hg4]; rfl
       have hlen := ZK hg2
       have hgr : Ji (XE D L) = true := by
        have h_ := hg5
        unfold MF at h_
        rw [List.all_eq_true] at h_; have h2_ := h_ L.length (by simp); have h3_ := (Db.mp hg3).2; rw [decide_eq_false (by omega), Bool.false_or] at h2_; exact Xcv h2_
       go_wp2_with fail
       refine (Yv.calls 400 A0 c0 D A2 c2 L (XE D L) (Ji (XE D L)) _ (Kd.Xg HD.out LB6.out) HCD.out (Kd.Xg HL.out LB6.out) HCL.out (Wy HV.out hg2 400 (by omega))).mono ?_; rintro e w7 ⟨v3, rfl, hr, hb⟩; replace hr := Kd.S_R hr; obtain ⟨A3, c3, e3⟩ := Kd.Y2 hr; subst e3; have HR := zz (Kd.X6 hr).2.2; have HCR := zz (Kd.X6 hr).2.1; have BE7 := zz (BE6.out.below hb); have LB7 := zz (Xc LB6.out hb); have CD := zz (Kd.Xg HD.out LB7.out); have CM := zz (Kd.Xg HM.out LB7.out); have CL := zz (Kd.Xg HL.out LB7.out); have LW7 := zz (Below.refl w7.heap.size w7); clear hb hr BE6 LB6 x0 x1 x2 x3 x4 HD HM HL; obtain ⟨x0, x1, x2, x3, x4⟩ := BE7.out.cells
       go_wp2
       go_loopg [52] 5 (fun kq v52 w' => ∃ p : Int, v52 = .int .i64 p ∧ Aside0 (0 ≤ p ∧ p.toNat + kq = 5) ∧ Aside0 (∀ n : Nat, n < 5 → (n : Int) < p → Vq D M L s d (n : Int) = true) ∧ Aside0 (Below w7.heap.size w7 w'))
       case atStart => exact ⟨0, rfl, ⟨by omega, by omega⟩, ⟨fun n h1 h2 => by omega⟩, LW7⟩
       case round =>
        clear LW7; obtain ⟨p, rfl, hp, hB, LW⟩ := hrel; have z0 := cc LW.out x0; have z1 := cc LW.out x1; have z2 := cc LW.out x2; have z3 := cc LW.out x3; have z4 := cc LW.out x4; have hp0 : 0 ≤ p := hp.out.1
        cases gk with
        | zero =>
         have qb : decide (p < 5) = false := decide_eq_false (by have := hp.out; omega)
         go_wp2
         go_ret
         exact ⟨by rw [show b = true from by rw [← HBv.out, XmI hH hg5 (fun n h1 => hB.out n h1 (by have := hp.out; omega))]]; first | done | rfl, Xc LB7.out LW.out⟩
        | succ k1 =>
         have hp5 : p < 5 := by have := hp.out; omega
         have qb : decide (p < 5) = true := decide_eq_true hp5; have hnp := zz (show ((p.toNat : Nat) : Int) = p by omega)
         have hlD : p < (D.length : Int) := by have := HV.out.1; omega
         have hlM : p < (M.length : Int) := by have := HVM.out.1; omega
         have hlR : p < ((XE D L).length : Int) := by have := (Uw HV.out hg2).1; omega
         have q0 := eq_true hp0; have qD := eq_true hlD; have qM := eq_true hlM; have qR := eq_true hlR; obtain ⟨aD, BD, bD, eD, d0, d1, d2, hdl, hdc⟩ := Zl CD.out p hp0 hlD; obtain ⟨aM, BM, bM, eM, m0, m1, m2, hml, hmc⟩ := Zl CM.out p hp0 hlM; obtain ⟨aR, BR, bR, eR, r0, r1, r2, hrl, hrc⟩ := Zl HR.out p hp0 hlR; subst eD eM eR; have ID := zz hdc; have JD := zz hdl; have IM := zz hmc; have JM := zz hml; have IR := zz hrc; have JR := zz hrl; clear hdl hdc hml hmc hrl hrc hlD hlM hlR
         go_wp2_with fail
         refine (Xc5 A2 c2 L p _ hg2 (Kd.Xg CL.out LW.out) HCL.out).mono ?_; rintro e w8 ⟨rfl, hb⟩; have LW8 := zz (Xc LW.out hb); clear hb LW z0 z1 z2 z3 z4; have z0 := cc LW8.out x0; have z1 := cc LW8.out x1; have z2 := cc LW8.out x2; have z3 := cc LW8.out x3; have z4 := cc LW8.out x4; rw [XmN]; generalize hh0 : decide (Mj L p ≤ 1) = h1
         go_upto_region 8 with (fail)
         go_cut [74] (fun v74 wc => ∃ b1 : Bool, v74 = .bool b1 ∧ Aside0 (b1 = true → Vq D M L s d p = false) ∧ Aside0 (b1 = false → Mj L p ≤ 1 ∧ (pg D p).f0 ≤ s) ∧ Aside0 (Below w7.heap.size w7 wc))
         case first =>
          cases h1
          ·have hhb := hh0
           have LW2 : Aside0 (Below w7.heap.size w7 w8.drew) := ⟨Xx LW8.out⟩
           refine Yw (n := 13) (S := fun w' => w'.cell? ⟨w.heap.size, 0, none⟩ = some (.slice (some aD) D.length c0) ∧ w'.cell? ⟨w.heap.size, 1, none⟩ = some (.slice (some aM) M.length c1) ∧ w'.cell? ⟨w.heap.size, 2, none⟩ = some (.slice A2 L.length c2) ∧ w'.cell? ⟨w.heap.size, 3, none⟩ = some (.int .i64 s) ∧ w'.cell? ⟨w.heap.size, 4, none⟩ = some (.bool d) ∧ w'.cell? (aD.add (p.toNat * 3)) = some (.int .i64 (Xb D p).f0) ∧ w'.cell? ⟨(aD.add (p.toNat * 3)).block, (aD.add (p.toNat * 3)).off + 1, none⟩ = some (.int .i64 (Xb D p).f1) ∧ w'.cell? ⟨(aD.add (p.toNat * 3)).block, (aD.add (p.toNat * 3)).off + 2, none⟩ = some (.slice BD (Xb D p).f2.length bD) ∧ w'.cell? (aM.add (p.toNat * 3)) = some (.int .i64 (Xb M p).f0) ∧ w'.cell? ⟨(aM.add (p.toNat * 3)).block, (aM.add (p.toNat * 3)).off + 1, none⟩ = some (.int .i64 (Xb M p).f1) ∧ w'.cell? ⟨(aM.add (p.toNat * 3)).block, (aM.add (p.toNat * 3)).off + 2, none⟩ = some (.slice BM (Xb M p).f2.length bM) ∧ w'.cell? (aR.add (p.toNat * 3)) = some (.int .i64 (Xb (XE D L) p).f0) ∧ w'.cell? ⟨(aR.add (p.toNat * 3)).block, (aR.add (p.toNat * 3)).off + 1, none⟩ = some (.int .i64 (Xb (XE D L) p).f1) ∧ w'.cell? ⟨(aR.add (p.toNat * 3)).block, (aR.add (p.toNat * 3)).off + 2, none⟩ = some (.slice BR (Xb (XE D L) p).f2.length bR)) (ds := []) XtX zb6 rfl rfl ⟨cc LW2.out x0, cc LW2.out x1, cc LW2.out x2, cc LW2.out x3, cc LW2.out x4, cc LW2.out d0, cc LW2.out d1, cc LW2.out d2, cc LW2.out m0, cc LW2.out m1, cc LW2.out m2, cc LW2.out r0, cc LW2.out r1, cc LW2.out r2⟩ (fun hHeld => ?_); refine XH X3.Xfo X3.BS (fun HT_ HW_ => ?_)
           generalize w8.drew = w20 at LW2 hHeld ⊢; clear z0 z1 z2 z3 z4 LW8; refine pu 0 62 XtY HT_ ?_; refine pu 1 63 XtZ HT_ ?_; refine pu 2 64 Xua HT_ ?_; refine pn 3 65 Xub HT_ ?_; refine pn 4 66 Xuc HT_ ?_; refine pn 5 67 Xud HT_ ?_; refine pn 6 68 Xue HT_ ?_; refine pn 7 69 Xuf HT_ ?_; refine pn 8 70 Xug HT_ ?_; refine pn 9 71 XmJ HT_ ?_; refine pn 10 72 XmK HT_ ?_; refine pn 11 73 XmL HT_ ?_; refine pu 12 74 XmM HT_ ?_; refine YX (YA HT_.out zb6) ?_; clear hHeld
           go_wp2
           go_meet
           case rel => exact ⟨true, rfl, ⟨fun _ => by unfold Vq; rw [hhb]; simp⟩, ⟨(fun h => absurd h (by simp))⟩, LW2⟩
          have hhb := hh0; have hh : Mj L p ≤ 1 := of_decide_eq_true hh0
          by_cases cs1 : (Xb D p).f0 > s
          ·have c1b : decide (s < (Xb D p).f0) = true := decide_eq_true cs1
           have LW2 : Aside0 (Below w7.heap.size w7 w8.drew) := ⟨Xx LW8.out⟩
           refine Yw (n := 13) (S := fun w' => w'.cell? ⟨w.heap.size, 0, none⟩ = some (.slice (some aD) D.length c0) ∧ w'.cell? ⟨w.heap.size, 1, none⟩ = some (.slice (some aM) M.length c1) ∧ w'.cell? ⟨w.heap.size, 2, none⟩ = some (.slice A2 L.length c2) ∧ w'.cell? ⟨w.heap.size, 3, none⟩ = some (.int .i64 s) ∧ w'.cell? ⟨w.heap.size, 4, none⟩ = some (.bool d) ∧ w'.cell? (aD.add (p.toNat * 3)) = some (.int .i64 (Xb D p).f0) ∧ w'.cell? ⟨(aD.add (p.toNat * 3)).block, (aD.add (p.toNat * 3)).off + 1, none⟩ = some (.int .i64 (Xb D p).f1) ∧ w'.cell? ⟨(aD.add (p.toNat * 3)).block, (aD.add (p.toNat * 3)).off + 2, none⟩ = some (.slice BD (Xb D p).f2.length bD) ∧ w'.cell? (aM.add (p.toNat * 3)) = some (.int .i64 (Xb M p).f0) ∧ w'.cell? ⟨(aM.add (p.toNat * 3)).block, (aM.add (p.toNat * 3)).off + 1, none⟩ = some (.int .i64 (Xb M p).f1) ∧ w'.cell? ⟨(aM.add (p.toNat * 3)).block, (aM.add (p.toNat * 3)).off + 2, none⟩ = some (.slice BM (Xb M p).f2.length bM) ∧ w'.cell? (aR.add (p.toNat * 3)) = some (.int .i64 (Xb (XE D L) p).f0) ∧ w'.cell? ⟨(aR.add (p.toNat * 3)).block, (aR.add (p.toNat * 3)).off + 1, none⟩ = some (.int .i64 (Xb (XE D L) p).f1) ∧ w'.cell? ⟨(aR.add (p.toNat * 3)).block, (aR.add (p.toNat * 3)).off + 2, none⟩ = some (.slice BR (Xb (XE D L) p).f2.length bR)) (ds := []) XtX zb6 rfl rfl ⟨cc LW2.out x0, cc LW2.out x1, cc LW2.out x2, cc LW2.out x3, cc LW2.out x4, cc LW2.out d0, cc LW2.out d1, cc LW2.out d2, cc LW2.out m0, cc LW2.out m1, cc LW2.out m2, cc LW2.out r0, cc LW2.out r1, cc LW2.out r2⟩ (fun hHeld => ?_); refine XH X3.Xfo X3.BS (fun HT_ HW_ => ?_)
           generalize w8.drew = w20 at LW2 hHeld ⊢; clear z0 z1 z2 z3 z4 LW8; refine pu 0 62 XtY HT_ ?_; refine pu 1 63 XtZ HT_ ?_; refine pu 2 64 Xua HT_ ?_; refine pu 3 65 Xub HT_ ?_; refine tk 4 66 Xuc HT_ HW_ hHeld ?_; refine pu 5 67 Xud HT_ ?_; refine pu 6 68 Xue HT_ ?_; refine pu 7 69 Xuf HT_ ?_; refine tk 8 70 Xug HT_ HW_ hHeld ?_; refine pu 9 71 XmJ HT_ ?_; refine tk 10 72 XmK HT_ HW_ hHeld ?_; refine pu 11 73 XmL HT_ ?_; refine pu 12 74 XmM HT_ ?_; refine YX (YA HT_.out zb6) ?_; clear hHeld
           go_wp2
           go_meet
           case rel => exact ⟨true, rfl, ⟨fun _ => by unfold Vq; rw [decide_eq_false (show ¬ (pg D p).f0 ≤ s from by show ¬ (Xb D p).f0 ≤ s; omega)]; rfl⟩, ⟨(fun h => absurd h (by simp))⟩, LW2⟩
          ·have c1b : decide (s < (Xb D p).f0) = false := decide_eq_false cs1
           have LW2 : Aside0 (Below w7.heap.size w7 w8.drew) := ⟨Xx LW8.out⟩
           refine Yw (n := 13) (S := fun w' => w'.cell? ⟨w.heap.size, 0, none⟩ = some (.slice (some aD) D.length c0) ∧ w'.cell? ⟨w.heap.size, 1, none⟩ = some (.slice (some aM) M.length c1) ∧ w'.cell? ⟨w.heap.size, 2, none⟩ = some (.slice A2 L.length c2) ∧ w'.cell? ⟨w.heap.size, 3, none⟩ = some (.int .i64 s) ∧ w'.cell? ⟨w.heap.size, 4, none⟩ = some (.bool d) ∧ w'.cell? (aD.add (p.toNat * 3)) = some (.int .i64 (Xb D p).f0) ∧ w'.cell? ⟨(aD.add (p.toNat * 3)).block, (aD.add (p.toNat * 3)).off + 1, none⟩ = some (.int .i64 (Xb D p).f1) ∧ w'.cell? ⟨(aD.add (p.toNat * 3)).block, (aD.add (p.toNat * 3)).off + 2, none⟩ = some (.slice BD (Xb D p).f2.length bD) ∧ w'.cell? (aM.add (p.toNat * 3)) = some (.int .i64 (Xb M p).f0) ∧ w'.cell? ⟨(aM.add (p.toNat * 3)).block, (aM.add (p.toNat * 3)).off + 1, none⟩ = some (.int .i64 (Xb M p).f1) ∧ w'.cell? ⟨(aM.add (p.toNat * 3)).block, (aM.add (p.toNat * 3)).off + 2, none⟩ = some (.slice BM (Xb M p).f2.length bM) ∧ w'.cell? (aR.add (p.toNat * 3)) = some (.int .i64 (Xb (XE D L) p).f0) ∧ w'.cell? ⟨(aR.add (p.toNat * 3)).block, (aR.add (p.toNat * 3)).off + 1, none⟩ = some (.int .i64 (Xb (XE D L) p).f1) ∧ w'.cell? ⟨(aR.add (p.toNat * 3)).block, (aR.add (p.toNat * 3)).off + 2, none⟩ = some (.slice BR (Xb (XE D L) p).f2.length bR)) (ds := []) XtX zb6 rfl rfl ⟨cc LW2.out x0, cc LW2.out x1, cc LW2.out x2, cc LW2.out x3, cc LW2.out x4, cc LW2.out d0, cc LW2.out d1, cc LW2.out d2, cc LW2.out m0, cc LW2.out m1, cc LW2.out m2, cc LW2.out r0, cc LW2.out r1, cc LW2.out r2⟩ (fun hHeld => ?_); refine XH X3.Xfo X3.BS (fun HT_ HW_ => ?_)
           generalize w8.drew = w20 at LW2 hHeld ⊢; clear z0 z1 z2 z3 z4 LW8; refine pu 0 62 XtY HT_ ?_; refine pu 1 63 XtZ HT_ ?_; refine pu 2 64 Xua HT_ ?_; refine pu 3 65 Xub HT_ ?_; refine tk 4 66 Xuc HT_ HW_ hHeld ?_; refine pu 5 67 Xud HT_ ?_; refine pu 6 68 Xue HT_ ?_; refine pu 7 69 Xuf HT_ ?_; refine tk 8 70 Xug HT_ HW_ hHeld ?_; refine pu 9 71 XmJ HT_ ?_; refine tk 10 72 XmK HT_ HW_ hHeld ?_; refine pu 11 73 XmL HT_ ?_; refine pu 12 74 XmM HT_ ?_; refine YX (YA HT_.out zb6) ?_; clear hHeld
           go_wp2
           go_meet
           case rel => exact ⟨false, rfl, ⟨(fun h => absurd h (by simp))⟩, ⟨fun _ => ⟨hh, by show (Xb D p).f0 ≤ s; omega⟩⟩, LW2⟩
         case rest =>
          clear LW8 z0 z1 z2 z3 z4; obtain ⟨b1, rfl, hb1, hb2, LW⟩ := hcut; have z0 := cc LW.out x0; have z1 := cc LW.out x1; have z2 := cc LW.out x2; have z3 := cc LW.out x3; have z4 := cc LW.out x4
          cases b1 with
          | true =>
           go_wp2
           go_ret
           exact ⟨by rw [show b = false from by rw [← HBv.out, Nz p.toNat (by omega) (by rw [hnp.out]; exact hb1.out (by simp))]]; first | done | rfl, Xc LB7.out LW.out⟩
          | false =>
           obtain ⟨hh, hds⟩ := hb2.out (by simp); have HH := zz hh; have HDS := zz hds; clear hb1 hb2 hh hds
           go_upto_region 10 with (fail)
           go_cut [105] (fun v105 wc => ∃ b1 : Bool, v105 = .bool b1 ∧ Aside0 (Vq D M L s d p = !b1) ∧ Aside0 (Below w7.heap.size w7 wc))
           case first =>
            cases d with
            | true =>
             cases hSm : VC (pg M p) (pg D p) with
             | false =>
              have LW2 : Aside0 (Below w7.heap.size w7 wc.drew) := ⟨Xx LW.out⟩
              refine Yw (n := 31) (S := fun w' => w'.cell? ⟨w.heap.size, 0, none⟩ = some (.slice (some aD) D.length c0) ∧ w'.cell? ⟨w.heap.size, 1, none⟩ = some (.slice (some aM) M.length c1) ∧ w'.cell? ⟨w.heap.size, 2, none⟩ = some (.slice A2 L.length c2) ∧ w'.cell? ⟨w.heap.size, 3, none⟩ = some (.int .i64 s) ∧ w'.cell? ⟨w.heap.size, 4, none⟩ = some (.bool true) ∧ w'.cell? (aD.add (p.toNat * 3)) = some (.int .i64 (Xb D p).f0) ∧ w'.cell? ⟨(aD.add (p.toNat * 3)).block, (aD.add (p.toNat * 3)).off + 1, none⟩ = some (.int .i64 (Xb D p).f1) ∧ w'.cell? ⟨(aD.add (p.toNat * 3)).block, (aD.add (p.toNat * 3)).off + 2, none⟩ = some (.slice BD (Xb D p).f2.length bD) ∧ w'.cell? (aM.add (p.toNat * 3)) = some (.int .i64 (Xb M p).f0) ∧ w'.cell? ⟨(aM.add (p.toNat * 3)).block, (aM.add (p.toNat * 3)).off + 1, none⟩ = some (.int .i64 (Xb M p).f1) ∧ w'.cell? ⟨(aM.add (p.toNat * 3)).block, (aM.add (p.toNat * 3)).off + 2, none⟩ = some (.slice BM (Xb M p).f2.length bM) ∧ w'.cell? (aR.add (p.toNat * 3)) = some (.int .i64 (Xb (XE D L) p).f0) ∧ w'.cell? ⟨(aR.add (p.toNat * 3)).block, (aR.add (p.toNat * 3)).off + 1, none⟩ = some (.int .i64 (Xb (XE D L) p).f1) ∧ w'.cell? ⟨(aR.add (p.toNat * 3)).block, (aR.add (p.toNat * 3)).off + 2, none⟩ = some (.slice BR (Xb (XE D L) p).f2.length bR)) (ds := []) XiI zb6 rfl rfl ⟨cc LW2.out x0, cc LW2.out x1, cc LW2.out x2, cc LW2.out x3, cc LW2.out x4, cc LW2.out d0, cc LW2.out d1, cc LW2.out d2, cc LW2.out m0, cc LW2.out m1, cc LW2.out m2, cc LW2.out r0, cc LW2.out r1, cc LW2.out r2⟩ (fun hHeld => ?_); refine XH X3.Tk X3.NA (fun HT_ HW_ => ?_)
              generalize wc.drew = w20 at LW2 hHeld ⊢; clear z0 z1 z2 z3 z4 LW; refine pu 0 75 XiJ HT_ ?_; refine tk 1 76 XiK HT_ HW_ hHeld ?_; refine pu 2 77 XiL HT_ ?_; refine pu 3 78 XiM HT_ ?_; refine tk 4 79 XiN HT_ HW_ hHeld ?_; refine pu 5 80 XiO HT_ ?_; refine pu 6 81 XiP HT_ ?_; refine tk 7 82 XiQ HT_ HW_ hHeld ?_; refine pu 8 83 XiR HT_ ?_; refine tk 9 84 XiS HT_ HW_ hHeld ?_; refine pu 10 85 XiT HT_ ?_; refine pu 11 86 XiU HT_ ?_; refine tk 12 87 XiV HT_ HW_ hHeld ?_; refine Zj (i := 13) (N := some 88) XiW rfl rfl (Yl HT_.out zb6) (by decide) (fun K hK => ?_); refine YI Tryz.func54 zb6 rfl #[.agg #[.int .i64 (Xb M p).f0, .int .i64 (Xb M p).f1, .slice BM (Xb M p).f2.length bM], .agg #[.int .i64 (Xb D p).f0, .int .i64 (Xb D p).f1, .slice BD (Xb D p).f2.length bD]] (by rfl) rfl rfl zb2 ?_
              with_reducible refine (J4.calls 1002 (Xb M p).f0 (Xb M p).f1 BM bM (Xb M p).f2 (Xb D p).f0 (Xb D p).f1 BD bD (Xb D p).f2 false _ (Kd.Xg IM.out LW2.out) JM.out (Kd.Xg ID.out LW2.out) JD.out (hSm ▸ RL (Nat.le_trans (Nat.le_of_eq (HVM.out.ok p hp0 hp5)) (by omega)) (Nat.le_trans (Nat.le_of_eq (HV.out.ok p hp0 hp5)) (by omega)) 1002 (by omega))).mono ?_
              rintro e w30 ⟨rfl, hb⟩; refine ⟨_, rfl, ?_⟩; have LW3 := zz (Xc LW2.out hb); clear hb LW2; refine hK.out _ _ ⟨cc LW3.out x0, cc LW3.out x1, cc LW3.out x2, cc LW3.out x3, cc LW3.out x4, cc LW3.out d0, cc LW3.out d1, cc LW3.out d2, cc LW3.out m0, cc LW3.out m1, cc LW3.out m2, cc LW3.out r0, cc LW3.out r1, cc LW3.out r2⟩ (fun hHeld => ?_); clear hK K; refine XQ (a' := ?_) ?_ ?_; rotate_left
              ·show Act.put _ (some 88) _ = _
               simp only [Act.put, List.setIfInBounds_toArray, List.set_cons_zero, List.set_cons_succ, Xz, XF]
               rfl
              refine pu 14 89 XiX HT_ ?_; refine pu 15 90 XiY HT_ ?_; refine pu 16 91 XiZ HT_ ?_; refine pn 17 92 Xja HT_ ?_; refine pn 18 93 Xjb HT_ ?_; refine pn 19 94 Xjc HT_ ?_; refine pn 20 95 Xjd HT_ ?_; refine pn 21 96 Xje HT_ ?_; refine pn 22 97 Xjf HT_ ?_; refine pn 23 98 Xjg HT_ ?_; refine pn 24 99 Xjh HT_ ?_; refine pn 25 100 Xji HT_ ?_; refine pn 26 101 Xjj HT_ ?_; refine pn 27 102 Xjk HT_ ?_; refine pn 28 103 Xjl HT_ ?_; refine pn 29 104 Xjm HT_ ?_; refine pu 30 105 Xjn HT_ ?_; refine YX (YA HT_.out zb6) ?_; clear hHeld
              go_wp2
              go_meet
              case rel => exact ⟨true, rfl, ⟨by rw [Xc4 HDS.out HH.out, hSm]; rfl⟩, LW3⟩
             | true =>
              have LW2 : Aside0 (Below w7.heap.size w7 wc.drew) := ⟨Xx LW.out⟩
              refine Yw (n := 31) (S := fun w' => w'.cell? ⟨w.heap.size, 0, none⟩ = some (.slice (some aD) D.length c0) ∧ w'.cell? ⟨w.heap.size, 1, none⟩ = some (.slice (some aM) M.length c1) ∧ w'.cell? ⟨w.heap.size, 2, none⟩ = some (.slice A2 L.length c2) ∧ w'.cell? ⟨w.heap.size, 3, none⟩ = some (.int .i64 s) ∧ w'.cell? ⟨w.heap.size, 4, none⟩ = some (.bool true) ∧ w'.cell? (aD.add (p.toNat * 3)) = some (.int .i64 (Xb D p).f0) ∧ w'.cell? ⟨(aD.add (p.toNat * 3)).block, (aD.add (p.toNat * 3)).off + 1, none⟩ = some (.int .i64 (Xb D p).f1) ∧ w'.cell? ⟨(aD.add (p.toNat * 3)).block, (aD.add (p.toNat * 3)).off + 2, none⟩ = some (.slice BD (Xb D p).f2.length bD) ∧ w'.cell? (aM.add (p.toNat * 3)) = some (.int .i64 (Xb M p).f0) ∧ w'.cell? ⟨(aM.add (p.toNat * 3)).block, (aM.add (p.toNat * 3)).off + 1, none⟩ = some (.int .i64 (Xb M p).f1) ∧ w'.cell? ⟨(aM.add (p.toNat * 3)).block, (aM.add (p.toNat * 3)).off + 2, none⟩ = some (.slice BM (Xb M p).f2.length bM) ∧ w'.cell? (aR.add (p.toNat * 3)) = some (.int .i64 (Xb (XE D L) p).f0) ∧ w'.cell? ⟨(aR.add (p.toNat * 3)).block, (aR.add (p.toNat * 3)).off + 1, none⟩ = some (.int .i64 (Xb (XE D L) p).f1) ∧ w'.cell? ⟨(aR.add (p.toNat * 3)).block, (aR.add (p.toNat * 3)).off + 2, none⟩ = some (.slice BR (Xb (XE D L) p).f2.length bR)) (ds := []) XiI zb6 rfl rfl ⟨cc LW2.out x0, cc LW2.out x1, cc LW2.out x2, cc LW2.out x3, cc LW2.out x4, cc LW2.out d0, cc LW2.out d1, cc LW2.out d2, cc LW2.out m0, cc LW2.out m1, cc LW2.out m2, cc LW2.out r0, cc LW2.out r1, cc LW2.out r2⟩ (fun hHeld => ?_); refine XH X3.Tk X3.NA (fun HT_ HW_ => ?_)
              generalize wc.drew = w20 at LW2 hHeld ⊢; clear z0 z1 z2 z3 z4 LW; refine pu 0 75 XiJ HT_ ?_; refine tk 1 76 XiK HT_ HW_ hHeld ?_; refine pu 2 77 XiL HT_ ?_; refine pu 3 78 XiM HT_ ?_; refine tk 4 79 XiN HT_ HW_ hHeld ?_; refine pu 5 80 XiO HT_ ?_; refine pu 6 81 XiP HT_ ?_; refine tk 7 82 XiQ HT_ HW_ hHeld ?_; refine pu 8 83 XiR HT_ ?_; refine tk 9 84 XiS HT_ HW_ hHeld ?_; refine pu 10 85 XiT HT_ ?_; refine pu 11 86 XiU HT_ ?_; refine tk 12 87 XiV HT_ HW_ hHeld ?_; refine Zj (i := 13) (N := some 88) XiW rfl rfl (Yl HT_.out zb6) (by decide) (fun K hK => ?_); refine YI Tryz.func54 zb6 rfl #[.agg #[.int .i64 (Xb M p).f0, .int .i64 (Xb M p).f1, .slice BM (Xb M p).f2.length bM], .agg #[.int .i64 (Xb D p).f0, .int .i64 (Xb D p).f1, .slice BD (Xb D p).f2.length bD]] (by rfl) rfl rfl zb2 ?_
              with_reducible refine (J4.calls 1002 (Xb M p).f0 (Xb M p).f1 BM bM (Xb M p).f2 (Xb D p).f0 (Xb D p).f1 BD bD (Xb D p).f2 true _ (Kd.Xg IM.out LW2.out) JM.out (Kd.Xg ID.out LW2.out) JD.out (hSm ▸ RL (Nat.le_trans (Nat.le_of_eq (HVM.out.ok p hp0 hp5)) (by omega)) (Nat.le_trans (Nat.le_of_eq (HV.out.ok p hp0 hp5)) (by omega)) 1002 (by omega))).mono ?_
              rintro e w30 ⟨rfl, hb⟩; refine ⟨_, rfl, ?_⟩; have LW3 := zz (Xc LW2.out hb); clear hb LW2; refine hK.out _ _ ⟨cc LW3.out x0, cc LW3.out x1, cc LW3.out x2, cc LW3.out x3, cc LW3.out x4, cc LW3.out d0, cc LW3.out d1, cc LW3.out d2, cc LW3.out m0, cc LW3.out m1, cc LW3.out m2, cc LW3.out r0, cc LW3.out r1, cc LW3.out r2⟩ (fun hHeld => ?_); clear hK K; refine XQ (a' := ?_) ?_ ?_; rotate_left
              ·show Act.put _ (some 88) _ = _
               simp only [Act.put, List.setIfInBounds_toArray, List.set_cons_zero, List.set_cons_succ, Xz, XF]
               rfl
              refine pu 14 89 XiX HT_ ?_; refine pu 15 90 XiY HT_ ?_; refine pu 16 91 XiZ HT_ ?_; refine pu 17 92 Xja HT_ ?_; refine tk 18 93 Xjb HT_ HW_ hHeld ?_; refine pu 19 94 Xjc HT_ ?_; refine pu 20 95 Xjd HT_ ?_; refine pn 21 96 Xje HT_ ?_; refine pn 22 97 Xjf HT_ ?_; refine pn 23 98 Xjg HT_ ?_; refine pn 24 99 Xjh HT_ ?_; refine pn 25 100 Xji HT_ ?_; refine pn 26 101 Xjj HT_ ?_; refine pn 27 102 Xjk HT_ ?_; refine pn 28 103 Xjl HT_ ?_; refine pu 29 104 Xjm HT_ ?_; refine pu 30 105 Xjn HT_ ?_; refine YX (YA HT_.out zb6) ?_; clear hHeld
              go_wp2
              go_meet
              case rel => exact ⟨false, rfl, ⟨by rw [Xc4 HDS.out HH.out, hSm]; rfl⟩, LW3⟩
            | false =>
             cases hMm : (if JL L p = true then (De D M L p && (pg M p).f1 == (pg (XE D L) p).f1) else VC (pg M p) (pg (XE D L) p)) with
             | false =>
              have LW2 : Aside0 (Below w7.heap.size w7 wc.drew) := ⟨Xx LW.out⟩
              refine Yw (n := 31) (S := fun w' => w'.cell? ⟨w.heap.size, 0, none⟩ = some (.slice (some aD) D.length c0) ∧ w'.cell? ⟨w.heap.size, 1, none⟩ = some (.slice (some aM) M.length c1) ∧ w'.cell? ⟨w.heap.size, 2, none⟩ = some (.slice A2 L.length c2) ∧ w'.cell? ⟨w.heap.size, 3, none⟩ = some (.int .i64 s) ∧ w'.cell? ⟨w.heap.size, 4, none⟩ = some (.bool false) ∧ w'.cell? (aD.add (p.toNat * 3)) = some (.int .i64 (Xb D p).f0) ∧ w'.cell? ⟨(aD.add (p.toNat * 3)).block, (aD.add (p.toNat * 3)).off + 1, none⟩ = some (.int .i64 (Xb D p).f1) ∧ w'.cell? ⟨(aD.add (p.toNat * 3)).block, (aD.add (p.toNat * 3)).off + 2, none⟩ = some (.slice BD (Xb D p).f2.length bD) ∧ w'.cell? (aM.add (p.toNat * 3)) = some (.int .i64 (Xb M p).f0) ∧ w'.cell? ⟨(aM.add (p.toNat * 3)).block, (aM.add (p.toNat * 3)).off + 1, none⟩ = some (.int .i64 (Xb M p).f1) ∧ w'.cell? ⟨(aM.add (p.toNat * 3)).block, (aM.add (p.toNat * 3)).off + 2, none⟩ = some (.slice BM (Xb M p).f2.length bM) ∧ w'.cell? (aR.add (p.toNat * 3)) = some (.int .i64 (Xb (XE D L) p).f0) ∧ w'.cell? ⟨(aR.add (p.toNat * 3)).block, (aR.add (p.toNat * 3)).off + 1, none⟩ = some (.int .i64 (Xb (XE D L) p).f1) ∧ w'.cell? ⟨(aR.add (p.toNat * 3)).block, (aR.add (p.toNat * 3)).off + 2, none⟩ = some (.slice BR (Xb (XE D L) p).f2.length bR)) (ds := []) XiI zb6 rfl rfl ⟨cc LW2.out x0, cc LW2.out x1, cc LW2.out x2, cc LW2.out x3, cc LW2.out x4, cc LW2.out d0, cc LW2.out d1, cc LW2.out d2, cc LW2.out m0, cc LW2.out m1, cc LW2.out m2, cc LW2.out r0, cc LW2.out r1, cc LW2.out r2⟩ (fun hHeld => ?_); refine XH X3.Tk X3.NA (fun HT_ HW_ => ?_)
              generalize wc.drew = w20 at LW2 hHeld ⊢; clear z0 z1 z2 z3 z4 LW; refine pu 0 75 XiJ HT_ ?_; refine tk 1 76 XiK HT_ HW_ hHeld ?_; refine pu 2 77 XiL HT_ ?_; refine pn 3 78 XiM HT_ ?_; refine pn 4 79 XiN HT_ ?_; refine pn 5 80 XiO HT_ ?_; refine pn 6 81 XiP HT_ ?_; refine pn 7 82 XiQ HT_ ?_; refine pn 8 83 XiR HT_ ?_; refine pn 9 84 XiS HT_ ?_; refine pn 10 85 XiT HT_ ?_; refine pn 11 86 XiU HT_ ?_; refine pn 12 87 XiV HT_ ?_; refine pn 13 88 XiW HT_ ?_; refine pn 14 89 XiX HT_ ?_; refine pu 15 90 XiY HT_ ?_; refine pu 16 91 XiZ HT_ ?_; refine pu 17 92 Xja HT_ ?_; refine tk 18 93 Xjb HT_ HW_ hHeld ?_; refine pu 19 94 Xjc HT_ ?_; refine pu 20 95 Xjd HT_ ?_; refine tk 21 96 Xje HT_ HW_ hHeld ?_; refine pu 22 97 Xjf HT_ ?_; refine pu 23 98 Xjg HT_ ?_; refine pu 24 99 Xjh HT_ ?_; refine pu 25 100 Xji HT_ ?_; refine tk 26 101 Xjj HT_ HW_ hHeld ?_; refine Zj (i := 27) (N := some 102) Xjk rfl rfl (Yl HT_.out zb6) (by decide) (fun K hK => ?_); refine YI Tryz.func55 zb6 rfl #[.agg #[.slice (some aD) D.length c0, .slice (some aM) M.length c1, .slice A2 L.length c2, .int .i64 s, .bool false], .int .i64 p, .agg #[.int .i64 (Xb (XE D L) p).f0, .int .i64 (Xb (XE D L) p).f1, .slice BR (Xb (XE D L) p).f2.length bR]] (by rfl) rfl rfl zb2 ?_
              with_reducible refine (Tm (some aD) c0 D (some aM) c1 M A2 c2 L s false p (pg (XE D L) p) BR bR _ (Kd.Xg CD.out LW2.out) (Kd.Xg CM.out LW2.out) (Kd.Xg CL.out LW2.out) HCL.out (Kd.Xg IR.out LW2.out) JR.out (Nat.le_trans (Nat.le_of_eq ((Uw HV.out hg2).ok p hp0 hp5)) (by omega)) HV.out HVM.out hg2 hp0 hp5).mono ?_
              rintro e w30 ⟨he, hb⟩; rw [hMm] at he; subst he; refine ⟨_, rfl, ?_⟩; have LW3 := zz (Xc LW2.out hb); clear hb LW2; refine hK.out _ _ ⟨cc LW3.out x0, cc LW3.out x1, cc LW3.out x2, cc LW3.out x3, cc LW3.out x4, cc LW3.out d0, cc LW3.out d1, cc LW3.out d2, cc LW3.out m0, cc LW3.out m1, cc LW3.out m2, cc LW3.out r0, cc LW3.out r1, cc LW3.out r2⟩ (fun hHeld => ?_); clear hK K; refine XQ (a' := ?_) ?_ ?_; rotate_left
              ·show Act.put _ (some 102) _ = _
               simp only [Act.put, List.setIfInBounds_toArray, List.set_cons_zero, List.set_cons_succ, Xz, XF]
               rfl
              refine pu 28 103 Xjl HT_ ?_; refine pu 29 104 Xjm HT_ ?_; refine pu 30 105 Xjn HT_ ?_; refine YX (YA HT_.out zb6) ?_; clear hHeld
              go_wp2
              go_meet
              case rel => exact ⟨true, rfl, ⟨by rw [Xc3 HDS.out HH.out, hMm]; rfl⟩, LW3⟩
             | true =>
              have LW2 : Aside0 (Below w7.heap.size w7 wc.drew) := ⟨Xx LW.out⟩
              refine Yw (n := 31) (S := fun w' => w'.cell? ⟨w.heap.size, 0, none⟩ = some (.slice (some aD) D.length c0) ∧ w'.cell? ⟨w.heap.size, 1, none⟩ = some (.slice (some aM) M.length c1) ∧ w'.cell? ⟨w.heap.size, 2, none⟩ = some (.slice A2 L.length c2) ∧ w'.cell? ⟨w.heap.size, 3, none⟩ = some (.int .i64 s) ∧ w'.cell? ⟨w.heap.size, 4, none⟩ = some (.bool false) ∧ w'.cell? (aD.add (p.toNat * 3)) = some (.int .i64 (Xb D p).f0) ∧ w'.cell? ⟨(aD.add (p.toNat * 3)).block, (aD.add (p.toNat * 3)).off + 1, none⟩ = some (.int .i64 (Xb D p).f1) ∧ w'.cell? ⟨(aD.add (p.toNat * 3)).block, (aD.add (p.toNat * 3)).off + 2, none⟩ = some (.slice BD (Xb D p).f2.length bD) ∧ w'.cell? (aM.add (p.toNat * 3)) = some (.int .i64 (Xb M p).f0) ∧ w'.cell? ⟨(aM.add (p.toNat * 3)).block, (aM.add (p.toNat * 3)).off + 1, none⟩ = some (.int .i64 (Xb M p).f1) ∧ w'.cell? ⟨(aM.add (p.toNat * 3)).block, (aM.add (p.toNat * 3)).off + 2, none⟩ = some (.slice BM (Xb M p).f2.length bM) ∧ w'.cell? (aR.add (p.toNat * 3)) = some (.int .i64 (Xb (XE D L) p).f0) ∧ w'.cell? ⟨(aR.add (p.toNat * 3)).block, (aR.add (p.toNat * 3)).off + 1, none⟩ = some (.int .i64 (Xb (XE D L) p).f1) ∧ w'.cell? ⟨(aR.add (p.toNat * 3)).block, (aR.add (p.toNat * 3)).off + 2, none⟩ = some (.slice BR (Xb (XE D L) p).f2.length bR)) (ds := []) XiI zb6 rfl rfl ⟨cc LW2.out x0, cc LW2.out x1, cc LW2.out x2, cc LW2.out x3, cc LW2.out x4, cc LW2.out d0, cc LW2.out d1, cc LW2.out d2, cc LW2.out m0, cc LW2.out m1, cc LW2.out m2, cc LW2.out r0, cc LW2.out r1, cc LW2.out r2⟩ (fun hHeld => ?_); refine XH X3.Tk X3.NA (fun HT_ HW_ => ?_)
              generalize wc.drew = w20 at LW2 hHeld ⊢; clear z0 z1 z2 z3 z4 LW; refine pu 0 75 XiJ HT_ ?_; refine tk 1 76 XiK HT_ HW_ hHeld ?_; refine pu 2 77 XiL HT_ ?_; refine pn 3 78 XiM HT_ ?_; refine pn 4 79 XiN HT_ ?_; refine pn 5 80 XiO HT_ ?_; refine pn 6 81 XiP HT_ ?_; refine pn 7 82 XiQ HT_ ?_; refine pn 8 83 XiR HT_ ?_; refine pn 9 84 XiS HT_ ?_; refine pn 10 85 XiT HT_ ?_; refine pn 11 86 XiU HT_ ?_; refine pn 12 87 XiV HT_ ?_; refine pn 13 88 XiW HT_ ?_; refine pn 14 89 XiX HT_ ?_; refine pu 15 90 XiY HT_ ?_; refine pu 16 91 XiZ HT_ ?_; refine pu 17 92 Xja HT_ ?_; refine tk 18 93 Xjb HT_ HW_ hHeld ?_; refine pu 19 94 Xjc HT_ ?_; refine pu 20 95 Xjd HT_ ?_; refine tk 21 96 Xje HT_ HW_ hHeld ?_; refine pu 22 97 Xjf HT_ ?_; refine pu 23 98 Xjg HT_ ?_; refine pu 24 99 Xjh HT_ ?_; refine pu 25 100 Xji HT_ ?_; refine tk 26 101 Xjj HT_ HW_ hHeld ?_; refine Zj (i := 27) (N := some 102) Xjk rfl rfl (Yl HT_.out zb6) (by decide) (fun K hK => ?_); refine YI Tryz.func55 zb6 rfl #[.agg #[.slice (some aD) D.length c0, .slice (some aM) M.length c1, .slice A2 L.length c2, .int .i64 s, .bool false], .int .i64 p, .agg #[.int .i64 (Xb (XE D L) p).f0, .int .i64 (Xb (XE D L) p).f1, .slice BR (Xb (XE D L) p).f2.length bR]] (by rfl) rfl rfl zb2 ?_
              with_reducible refine (Tm (some aD) c0 D (some aM) c1 M A2 c2 L s false p (pg (XE D L) p) BR bR _ (Kd.Xg CD.out LW2.out) (Kd.Xg CM.out LW2.out) (Kd.Xg CL.out LW2.out) HCL.out (Kd.Xg IR.out LW2.out) JR.out (Nat.le_trans (Nat.le_of_eq ((Uw HV.out hg2).ok p hp0 hp5)) (by omega)) HV.out HVM.out hg2 hp0 hp5).mono ?_
              rintro e w30 ⟨he, hb⟩; rw [hMm] at he; subst he; refine ⟨_, rfl, ?_⟩; have LW3 := zz (Xc LW2.out hb); clear hb LW2; refine hK.out _ _ ⟨cc LW3.out x0, cc LW3.out x1, cc LW3.out x2, cc LW3.out x3, cc LW3.out x4, cc LW3.out d0, cc LW3.out d1, cc LW3.out d2, cc LW3.out m0, cc LW3.out m1, cc LW3.out m2, cc LW3.out r0, cc LW3.out r1, cc LW3.out r2⟩ (fun hHeld => ?_); clear hK K; refine XQ (a' := ?_) ?_ ?_; rotate_left
              ·show Act.put _ (some 102) _ = _
               simp only [Act.put, List.setIfInBounds_toArray, List.set_cons_zero, List.set_cons_succ, Xz, XF]
               rfl
              refine pu 28 103 Xjl HT_ ?_; refine pu 29 104 Xjm HT_ ?_; refine pu 30 105 Xjn HT_ ?_; refine YX (YA HT_.out zb6) ?_; clear hHeld
              go_wp2
              go_meet
              case rel => exact ⟨false, rfl, ⟨by rw [Xc3 HDS.out HH.out, hMm]; rfl⟩, LW3⟩
           case rest =>
            clear LW z0 z1 z2 z3 z4; obtain ⟨b1, rfl, hb1, LW⟩ := hcut; have z0 := cc LW.out x0; have z1 := cc LW.out x1; have z2 := cc LW.out x2; have z3 := cc LW.out x3; have z4 := cc LW.out x4
            cases b1 with
            | true =>
             go_wp2
             go_ret
             exact ⟨by rw [show b = false from by rw [← HBv.out, Nz p.toNat (by omega) (by rw [hnp.out]; exact hb1.out)]]; first | done | rfl, Xc LB7.out LW.out⟩
            | false =>
             have hwp : wrap64 (p + 1) = p + 1 := T.wrap_small (by omega) (by omega); have hwp2 : IntKind.i64.wrap (p + 1) = p + 1 := (Xz _).trans hwp
             go_wp2
             go_roundg k1
             case measure => omega
             case rel => exact ⟨p + 1, rfl, ⟨by omega, by have := hp.out; omega⟩, ⟨fun m h1 h2 => by
              by_cases e : (m : Int) = p
              ·rw [e]; exact hb1.out
              ·exact hB.out m h1 (by omega)⟩, LW⟩
end Go.Proofs.YtphnphmbfogmlaaGreat.Pr
