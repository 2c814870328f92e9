import Derived.Test.YtphnphmbfogmlaaGreatQFByq
import Derived.Test.YtphnphmbfogmlaaGreatQFSx
import Derived.Test.YtphnphmbfogmlaaGreatQFPrWith
import Derived.Test.YtphnphmbfogmlaaGreatQFLcks
set_option linter.unusedVariables false
set_option linter.unusedSimpArgs false
namespace Go.Proofs.YtphnphmbfogmlaaGreat.Pr
open Go.RowKit Go.PW Go.PL Go.PM Go.Proofs.YtphnphmbfogmlaaGreat.T
attribute [local go_sem] Y3 Y4 YN YO Ya Yb Y5 Y6
end Go.Proofs.YtphnphmbfogmlaaGreat.Pr
namespace Go.Proofs.YtphnphmbfogmlaaGreat.T
open Go.RowKit Go.PW Go.Proofs.YtphnphmbfogmlaaGreat.Pr
def JZ (L : List Rc) (p : Int) : List Int → Int → Bool → Int × Bool
 | [], b, k => (b, k)
 | t :: q, b, k => if hasB L t p = true then JZ L p q t (b == 0) else JZ L p q b k
theorem Xfs (L : List Rc) (p : Int) (O : List Int) (x b : Int) (k : Bool) (h0 : 0 ≤ x) (h1 : x < (O.length : Int)) : JZ L p (O.drop x.toNat) b k = if hasB L (rd O x) p = true then JZ L p (O.drop (x + 1).toNat) (rd O x) (b == 0) else JZ L p (O.drop (x + 1).toNat) b k := by
 have hlt : x.toNat < O.length := by omega
 have e : O[x.toNat] = rd O x := by simp [rd, List.getD_eq_getElem?_getD, List.getElem?_eq_getElem hlt]
 rw [List.drop_eq_getElem_cons hlt, e, JZ, show (x + 1).toNat = x.toNat + 1 by omega]
theorem Sl (l : List Rc) : ∀ d t, (ZZ l d t).length ≤ d
 | 0, _ => by simp [ZZ]
 | d + 1, t => by
  have := Sl l d (t + 1)
  unfold ZZ
  split <;> simp <;> omega
theorem Et {l : List Rc} {t : Int} (h : lastB l t = 0) : Ux l t = [] := by
 unfold Ux
 rw [h]
 cases l.length with
 | zero => rfl
 | succ n => rw [chainB, if_neg (by omega)]
theorem XkO (L : List Rc) (p : Int) : (ZZ L 3 1).any (fun tx => loadT L tx p) = JL L p := by
 have key : ∀ (t : Int) (q : List Int), (if lastB L t = 0 then q else t :: q).any (fun tx => loadT L tx p) = (loadT L t p || q.any (fun tx => loadT L tx p)) := fun t q => by
  by_cases h : lastB L t = 0
  ·rw [if_pos h]
   have : loadT L t p = false := by unfold loadT; rw [Et h]; rfl
   rw [this, Bool.false_or]
  ·rw [if_neg h, List.any_cons]
 unfold JL
 rw [ZZ, key, ZZ, key, ZZ, key, ZZ]
 simp
theorem Xft (L : List Rc) (p : Int) (b : Int) (k : Bool) : JZ L p (ZZ L 3 1) b k = JZ L p [1, 2, 3] b k := by
 have key : ∀ (t : Int) (q q' : List Int) (h : ∀ b k, JZ L p q b k = JZ L p q' b k) (b : Int) (k : Bool), JZ L p (if lastB L t = 0 then q else t :: q) b k = JZ L p (t :: q') b k := fun t q q' hq b k => by
  by_cases h : lastB L t = 0
  ·have h2 : hasB L t p = false := by unfold hasB; rw [Et h]; rfl
   rw [if_pos h, JZ, h2, if_neg (by simp)]; exact hq b k
  ·rw [if_neg h, JZ, JZ, hq, hq]
 unfold ZZ
 refine key 1 _ [2, 3] (fun b k => ?_) b k
 unfold ZZ
 refine key 2 _ [3] (fun b k => ?_) b k
 unfold ZZ
 refine key 3 _ [] (fun b k => ?_) b k
 rfl
theorem XmN (L : List Rc) (p : Int) : (JZ L p (ZZ L 3 1) 0 true).2 = decide (Mj L p ≤ 1) := by
 rw [Xft]
 unfold Mj JZ JZ JZ JZ
 cases hasB L 1 p <;> cases hasB L 2 p <;> cases hasB L 3 p <;> simp
end Go.Proofs.YtphnphmbfogmlaaGreat.T
namespace Go.Proofs.YtphnphmbfogmlaaGreat.Pr
open Go.RowKit Go.PW Go.PL Go.PM Go.Proofs.YtphnphmbfogmlaaGreat.T
abbrev mLK0 : Array Bool := #[nn,nn,nn,nn,nn,nn]
abbrev mLK1 : Array Bool := #[yy,nn,nn,nn,nn,nn]
abbrev mLK2 : Array Bool := #[yy,yy,nn,nn,nn,nn]
abbrev mLK3 : Array Bool := #[yy,yy,nn,yy,nn,nn]
abbrev mLK4 : Array Bool := #[yy,yy,yy,yy,nn,nn]
abbrev mLK5 : Array Bool := #[yy,yy,yy,yy,yy,nn]
abbrev mLK6 : Array Bool := #[yy,yy,yy,yy,yy,yy]
def Va.T1 : Bool × List (List Nat × List Nat) := (true, [([], []), ([], []), ([0, 1], [0, 1]), ([], []), ([2, 3, 2], [2, 3]), ([4, 4, 0, 1, 2, 3, 4], [4])])
def Va.B1 : List Nat := [0, 0, 3, 0, 15, 31]
theorem Va.TH : JH .any (opsOf Tryz.f106 1) = Va.T1 := by kernel_rfl
theorem Va.MQ : Z4 Va.T1.2 Va.B1 = true := by kernel_rfl
set_option maxHeartbeats 4000000 in
set_option maxRecDepth 100000 in
theorem O6 (B Bp : Nat) (A2 : Option Addr) (c2 : Nat) (L : List S76) (p tx : Int) (w0 w : World) (hg : YP L = true) (hL : Kd.C k76 w A2 L.length L) (hc2 : L.length ≤ c2) (hb0 : w.cell? ⟨B, 0, none⟩ = some (.slice A2 L.length c2)) (hb1 : w.cell? ⟨Bp, 0, none⟩ = some (.int .i64 p)) :
 Calls Tryz.prog 106 #[.int .i64 tx, .pointer (some ⟨B, 0, none⟩), .pointer (some ⟨Bp, 0, none⟩)] w fun e w' => e = .returned (.bool (loadT L tx p)) ∧ Below w.heap.size w w' := by
 have hl := ZK hg; have HL := zz hL; have HCL := zz hc2; have H0 := zz hb0; have H1 := zz hb1; clear hL hc2 hb0 hb1
 go_enter Tryz.func106, Tryz.ntmps106
 go_wp2_with fail
 have LW : Aside0 (Below w.heap.size w w.drew) := ⟨Xx (Below.refl _ _)⟩
 refine Yw (n := 6) (S := fun w' => w'.cell? ⟨B, 0, none⟩ = some (.slice A2 L.length c2) ∧ w'.cell? ⟨Bp, 0, none⟩ = some (.int .i64 p)) (ds := []) mLK0 zb6 rfl rfl ⟨cc LW.out H0.out, cc LW.out H1.out⟩ (fun hHeld => ?_); refine XH Va.TH Va.MQ (fun HT_ HW_ => ?_); generalize w.drew = w4 at LW hHeld ⊢; refine tk 0 5 mLK1 HT_ HW_ hHeld ?_; refine pu 1 6 mLK2 HT_ ?_; refine tk 3 8 mLK3 HT_ HW_ hHeld ?_; refine Zj (i := 2) (N := some 7) mLK4 rfl rfl (Yl HT_.out zb6) (by decide) (fun K hK => ?_); refine YI Tryz.func61 zb6 rfl #[.slice A2 L.length c2, .int .i64 tx, .func (Fn.func 107) #[] #[]] (by rfl) rfl rfl zb2 ?_
 with_reducible refine (WE (fun x => x.f0 == 3) Xrr 400 A2 c2 L tx (MX (fun x => x.f0 == 3) L tx) _ (Kd.Xg HL.out LW.out) HCL.out (by have := Mm (fun x => x.f0 == 3) L tx; omega) (Qs _ L hg tx 400 (by omega))).mono ?_
 rintro e w5 ⟨v7, rfl, hz, hb⟩; refine ⟨_, rfl, ?_⟩; have LW5 := zz (Xc LW.out hb); obtain ⟨A7, c7, e7⟩ := Xjt hz; subst e7; have HZ := zz (Xdl hz); clear hb hz LW; refine hK.out _ _ ⟨cc LW5.out H0.out, cc LW5.out H1.out⟩ (fun hHeld => ?_); clear hK K; refine XQ (a' := ?_) ?_ ?_; rotate_left
 ·show Act.put _ (some 7) _ = _
  simp only [Act.put, List.setIfInBounds_toArray, List.set_cons_zero, List.set_cons_succ, Xz, XF]
  rfl
 refine Zj (i := 4) (N := some 9) mLK5 rfl rfl (Yl HT_.out zb6) (by decide) (fun K hK => ?_); refine YI Tryz.func60 zb6 rfl #[.slice A7 (MR (MX (fun x => x.f0 == 3) L tx)).length c7, .int .i64 p] (by rfl) rfl rfl zb2 ?_
 with_reducible refine (Z9.calls 400 A7 c7 (MR (MX (fun x => x.f0 == 3) L tx)) p ((MR (MX (fun x => x.f0 == 3) L tx)).any (fun x => x == p)) _ HZ.out.2.2 HZ.out.2.1 (contains_k _ p (by have := Un (MX (fun x => x.f0 == 3) L tx); have := Mm (fun x => x.f0 == 3) L tx; omega) 400 (by have := Un (MX (fun x => x.f0 == 3) L tx); have := Mm (fun x => x.f0 == 3) L tx; omega))).mono ?_
 rintro e w6 ⟨rfl, nd, hw⟩; refine ⟨_, rfl, ?_⟩
 have LW6 : Aside0 (Below w.heap.size w w6) := ⟨by rw [hw]; exact XN LW5.out nd⟩
 clear hw nd LW5; refine hK.out _ _ ⟨cc LW6.out H0.out, cc LW6.out H1.out⟩ (fun hHeld => ?_); clear hK K; refine XQ (a' := ?_) ?_ ?_; rotate_left
 ·show Act.put _ (some 9) _ = _
  simp only [Act.put, List.setIfInBounds_toArray, List.set_cons_zero, List.set_cons_succ, Xz, XF]
  rfl
 refine pu 5 4 mLK6 HT_ ?_; refine YX (YA HT_.out zb6) ?_; clear hHeld; simp only [Qt, XkP]
 go_wp2
 go_ret
 exact ⟨rfl, LW6.out⟩
theorem XkQ (l : List Int) (q : Int → Bool) (k : Nat) (h : k < l.length) : (l.take (k + 1)).any q = ((l.take k).any q || q (rd l (k : Int))) := by
 have e : l.take (k + 1) = l.take k ++ [rd l (k : Int)] := by
  rw [List.take_add_one, List.getElem?_eq_getElem h]
  simp [Go.PW.rd, List.getD_eq_getElem?_getD, List.getElem?_eq_getElem h]
 rw [e, List.any_append]
 simp
set_option maxHeartbeats 4000000 in
set_option maxRecDepth 100000 in
theorem KF (B Bp : Nat) (A2 : Option Addr) (c2 : Nat) (L : List S76) (p : Int) (A0 : Option Addr) (c : Nat) (l : List Int) (w : World) (hg : YP L = true) (hL : Kd.C k76 w A2 L.length L) (hc2 : L.length ≤ c2) (hb0 : w.cell? ⟨B, 0, none⟩ = some (.slice A2 L.length c2)) (hb1 : w.cell? ⟨Bp, 0, none⟩ = some (.int .i64 p)) (hC : Kd.C (Kd.int .i64) w A0 l.length l) (hc : l.length ≤ c) :
 Calls Tryz.prog 115 #[.slice A0 l.length c, .func (Fn.func 106) #[] #[.pointer (some ⟨B, 0, none⟩), .pointer (some ⟨Bp, 0, none⟩)]] w fun e w' => ∃ r : Int, e = .returned (.int .i64 r) ∧ decide (0 ≤ r) = l.any (fun tx => loadT L tx p) ∧ Below w.heap.size w w' := by
 have hm : l.length ≤ 9223372036854775807 := hC.2.1; have HC := zz hC; have HL := zz hL; have HCL := zz hc2; have H0 := zz hb0; have H1 := zz hb1; have HB0 := zz (Below.refl w.heap.size w); clear hC hL hc2 hb0 hb1
 go_enter Tryz.func115, Tryz.ntmps115
 go_wp2
 go_loopg [8] l.length (fun kq v8 w' => ∃ j : Nat, v8 = .int .i64 (j : Int) ∧ Aside0 (j + kq = l.length) ∧ Aside0 ((l.take j).any (fun tx => loadT L tx p) = false) ∧ Aside0 (Below w.heap.size w w'))
 case atStart => exact ⟨0, rfl, ⟨by omega⟩, ⟨by simp⟩, HB0⟩
 case round =>
  clear HB0; obtain ⟨j, rfl, hj, hA, HB⟩ := hrel
  cases gk with
  | zero =>
   have hj' : j = l.length := by have := hj.out; omega
   have qb : decide ((j : Int) < (l.length : Int)) = false := decide_eq_false (by omega)
   go_wp2
   go_ret
   refine ⟨_, rfl, ?_, HB.out⟩; have h3 := hA.out; rw [hj', List.take_length] at h3; rw [h3]
   rfl
  | succ k1 =>
   have hlt : j < l.length := by have := hj.out; omega
   have HS := zz (XkQ l (fun tx => loadT L tx p) j hlt); obtain ⟨ad, e2, hx0⟩ := Kd.Jn (Kd.Xg HC.out HB.out) (j : Int) (by omega) (by omega); subst e2; simp only [Int.toNat_natCast] at hx0; have p0 := eq_true (show (0 : Int) ≤ (j : Int) by omega); have p1 := eq_true (show (j : Int) < (l.length : Int) by omega); have qb : decide ((j : Int) < (l.length : Int)) = true := decide_eq_true (by omega)
   go_wp2_with fail
   refine (O6 B Bp A2 c2 L p (rd l (j : Int)) w _ hg (Kd.Xg HL.out HB.out) HCL.out (cc HB.out H0.out) (cc HB.out H1.out)).mono ?_; rintro e w1 ⟨rfl, hb⟩; have HB1 := zz (Xc HB.out hb); clear hb HB hx0
   cases hb : loadT L (rd l (j : Int)) p with
   | false =>
    have hw : IntKind.i64.wrap ((j : Int) + 1) = ((j + 1 : Nat) : Int) := by rw [Xz, T.wrap_small (by omega) (by omega)]; omega
    have hw2 : wrap64 ((j : Int) + 1) = ((j + 1 : Nat) : Int) := by rw [T.wrap_small (by omega) (by omega)]; omega
    go_wp2
    go_roundg k1
    case measure => omega
    case rel => exact ⟨j + 1, by first | rfl | (simp [hw, hw2]; done) | (congr 1), ⟨by have := hj.out; omega⟩, ⟨by rw [HS.out, hA.out, hb]; rfl⟩, HB1⟩
   | true =>
    go_wp2
    go_ret
    refine ⟨_, rfl, ?_, HB1.out⟩
    have h2 : (l.take (j + 1)).any (fun tx => loadT L tx p) = true := by rw [HS.out, hb]; simp
    have h3 : l.any (fun tx => loadT L tx p) = true := by
     rw [List.any_eq_true] at h2 ⊢; obtain ⟨x, hx, hpx⟩ := h2; exact ⟨x, List.mem_of_mem_take hx, hpx⟩
    rw [h3]
    simp
set_option maxHeartbeats 4000000 in
theorem SE (B Bp : Nat) (A2 : Option Addr) (c2 : Nat) (L : List S76) (p : Int) (A0 : Option Addr) (c : Nat) (l : List Int) (w : World) (hg : YP L = true) (hL : Kd.C k76 w A2 L.length L) (hc2 : L.length ≤ c2) (hb0 : w.cell? ⟨B, 0, none⟩ = some (.slice A2 L.length c2)) (hb1 : w.cell? ⟨Bp, 0, none⟩ = some (.int .i64 p)) (hC : Kd.C (Kd.int .i64) w A0 l.length l) (hc : l.length ≤ c) :
 Calls Tryz.prog 105 #[.slice A0 l.length c, .func (Fn.func 106) #[] #[.pointer (some ⟨B, 0, none⟩), .pointer (some ⟨Bp, 0, none⟩)]] w fun e w' => e = .returned (.bool (l.any (fun tx => loadT L tx p))) ∧ Below w.heap.size w w' := by
 have HC := zz hC; have HL := zz hL; have HCL := zz hc2; have HCc := zz hc; have H0 := zz hb0; have H1 := zz hb1; clear hC hL hc2 hb0 hb1 hc
 go_enter Tryz.func105, Tryz.ntmps105
 go_wp2_with fail
 refine (KF B Bp A2 c2 L p A0 c l _ hg HL.out HCL.out H0.out H1.out HC.out HCc.out).mono ?_; rintro e w1 ⟨r, rfl, hr, hb⟩; have HR := zz hr; have HB := zz hb; clear hr hb
 go_wp2
 go_ret
 exact ⟨by rw [← HR.out]; rfl, HB.out⟩
set_option maxHeartbeats 4000000 in
set_option maxRecDepth 100000 in
theorem XbB (A2 : Option Addr) (c2 : Nat) (L : List S76) (p : Int) (w : World) (hg : YP L = true) (hL : Kd.C k76 w A2 L.length L) (hc2 : L.length ≤ c2) :
 Calls Tryz.prog 85 #[.slice A2 L.length c2, .int .i64 p] w fun e w' => e = .returned (.bool (JL L p)) ∧ Below w.heap.size w w' := by
 have HL := zz hL; have HCL := zz hc2; clear hL hc2
 go_enter Tryz.func85, Tryz.ntmps85
 go_wp2_with fail
 have BA : Aside0 (((w.alloc (.cells #[.slice A2 L.length c2] 29)).alloc (.cells #[.int .i64 p] 3)).heap[w.heap.size]? = some (.cells #[.slice A2 L.length c2] 29 (0, 0))) := ⟨Ye (Jq _ _) _⟩
 have BP : Aside0 (((w.alloc (.cells #[.slice A2 L.length c2] 29)).alloc (.cells #[.int .i64 p] 3)).heap[w.heap.size + 1]? = some (.cells #[.int .i64 p] 3 (0, 0))) := ⟨by have h_ := Jq (w.alloc (.cells #[.slice A2 L.length c2] 29)) (.cells #[.int .i64 p] 3); simpa using h_⟩
 have LB := zz (Xj (Xj (Below.refl w.heap.size w) (.cells #[.slice A2 L.length c2] 29)) (.cells #[.int .i64 p] 3)); refine (Zf.calls 10 A2 c2 L (ZZ L 3 1) _ (Kd.Xg HL.out LB.out) HCL.out (K9 L 3 10 1 [] (by omega) (by omega) (by simp) (by omega))).mono ?_; rintro e w1 ⟨v6, rfl, ho, hb⟩; obtain ⟨A6, c6, e6⟩ := Kd.Y2 ho; subst e6; have HO := zz (Kd.X6 ho); have LB1 := zz (Xc LB.out hb); have BA1 := zz (Xk BA.out hb); have BP1 := zz (Xk BP.out hb); clear ho hb LB BA BP
 go_wp2_with fail
 refine (SE w.heap.size (w.heap.size + 1) A2 c2 L p A6 c6 (ZZ L 3 1) _ hg (Kd.Xg HL.out LB1.out) HCL.out ((Xd BA1.out 0).trans rfl) ((Xd BP1.out 0).trans rfl) HO.out.2.2 HO.out.2.1).mono ?_; rintro e w2 ⟨rfl, hb⟩; have LB2 := zz (Xc LB1.out hb); clear hb; simp only [XkO]
 go_wp2
 go_ret
 exact ⟨rfl, LB2.out⟩
set_option maxHeartbeats 4000000 in
set_option maxRecDepth 100000 in
theorem Xc5 (A2 : Option Addr) (c2 : Nat) (L : List S76) (p : Int) (w : World) (hg : YP L = true) (hL : Kd.C k76 w A2 L.length L) (hc2 : L.length ≤ c2) :
 Calls Tryz.prog 35 #[.slice A2 L.length c2, .int .i64 p] w fun e w' => e = .returned (.tuple #[.int .i64 (JZ L p (ZZ L 3 1) 0 true).1, .bool (JZ L p (ZZ L 3 1) 0 true).2]) ∧ Below w.heap.size w w' := by
 have hl := ZK hg; have HL := zz hL; have HCL := zz hc2; have LB0 := zz (Below.refl w.heap.size w); clear hL hc2
 obtain ⟨O, hO⟩ : ∃ O, ZZ L 3 1 = O := ⟨_, rfl⟩
 obtain ⟨r, hr⟩ : ∃ r, JZ L p (ZZ L 3 1) 0 true = r := ⟨_, rfl⟩
 rw [hr]; have hR := zz (show JZ L p (O.drop (0 : Int).toNat) 0 true = r by rw [← hO]; exact hr)
 have hOl : O.length ≤ 3 := by rw [← hO]; exact Sl L 3 1
 clear hr
 go_enter Tryz.func35, Tryz.ntmps35
 go_wp2_with fail
 refine (Zf.calls 10 A2 c2 L O _ (Kd.Xg HL.out LB0.out) HCL.out (hO ▸ K9 L 3 10 1 [] (by omega) (by omega) (by simp) (by omega))).mono ?_; rintro e w1 ⟨v11, rfl, ho, hb⟩; obtain ⟨A11, c11, e11⟩ := Kd.Y2 ho; subst e11; have R11 := zz ho; have LB1 := zz (Xc LB0.out hb); have HZ := zz hb.size; clear ho hb LB0 hO
 go_wp2
 go_loopg [6, 7, 13] O.length (fun kq v6 v7 v13 w' => ∃ (b : Int) (k : Bool) (x : Int), v6 = .int .i64 b ∧ v7 = .bool k ∧ v13 = .int .i64 x ∧ Aside0 (0 ≤ x ∧ x.toNat + kq = O.length) ∧ Aside0 (JZ L p (O.drop x.toNat) b k = r) ∧ Aside0 (Kd.R (Kd.int .i64) 3 w' w.heap.size (fun _ => True) (.slice A11 O.length c11) O) ∧ Aside0 (Below w.heap.size w w'))
 case atStart => exact ⟨0, true, 0, rfl, rfl, rfl, ⟨by omega, by omega⟩, hR, R11, LB1⟩
 case round =>
  clear hR R11 LB1; obtain ⟨b, k, x, rfl, rfl, rfl, hx, hR, R11, LB⟩ := hrel; have hx0 : 0 ≤ x := hx.out.1
  cases gk with
  | zero =>
   have qb : decide (x < (O.length : Int)) = false := decide_eq_false zb45; have hre := hR.out; rw [List.drop_of_length_le zb45] at hre
   unfold JZ at hre
   subst hre
   go_wp2
   refine bodyPost_ret (v := .tuple #[.int .i64 b, .bool k]) (by simp [results, Tryz.results35, go_sem, *]) rfl ⟨rfl, LB.out⟩
  | succ k1 =>
   have hlt : x < (O.length : Int) := by have := hx.out; omega
   have qb : decide (x < (O.length : Int)) = true := decide_eq_true hlt; obtain ⟨ad, e9, hxc⟩ := Kd.Jn (Kd.X6 R11.out).2.2 x hx0 hlt; subst e9; have p0 := eq_true hx0; have p1 := eq_true hlt; have hstep := zz (show JZ L p (O.drop x.toNat) b k = if hasB L (rd O x) p = true then JZ L p (O.drop (x + 1).toNat) (rd O x) (b == 0) else JZ L p (O.drop (x + 1).toNat) b k from Xfs L p O x b k hx0 hlt)
   go_wp2_with fail
   refine (KG (fun _ => true) Xwg 400 A2 c2 L (rd O x) (MX (fun _ => true) L (rd O x)) _ (Kd.Xg HL.out LB.out) HCL.out (by have := Mm (fun _ => true) L (rd O x); omega) (Qs _ L hg _ 400 (by omega))).mono ?_; rintro e w5 ⟨v7, rfl, hz, hb⟩; obtain ⟨A7, c7, e7⟩ := Xjt hz; subst e7; have HZ7 := zz (Xdl hz); have R5 := zz (Kd.Xr R11.out hb); have LB5 := zz (Xc LB.out hb); clear hz hb R11 LB hxc
   go_wp2_with fail
   refine (Z9.calls 400 A7 c7 (MR (MX (fun _ => true) L (rd O x))) p (hasB L (rd O x) p) _ HZ7.out.2.2 HZ7.out.2.1 (by rw [contains_k _ p (by have := Un (MX (fun _ => true) L (rd O x)); have := Mm (fun _ => true) L (rd O x); omega) 400 (by have := Un (MX (fun _ => true) L (rd O x)); have := Mm (fun _ => true) L (rd O x); omega), Qt, Xrs])).mono ?_; rintro e w6 ⟨rfl, nd, hw⟩
   have hb : Below w5.heap.size w5 w6 := by rw [hw]; exact XN (Below.refl _ _) nd
   have R6 := zz (Kd.Xr R5.out hb); have LB6 := zz (Xc LB5.out hb); clear hw nd hb R5 LB5; have hwx : wrap64 (x + 1) = x + 1 := T.wrap_small (by omega) (by omega); have hwx2 : IntKind.i64.wrap (x + 1) = x + 1 := (Xz _).trans hwx
   cases hh : hasB L (rd O x) p with
   | true =>
    go_wp2
    go_roundg k1
    case measure => omega
    case rel => exact ⟨_, _, x + 1, rfl, rfl, rfl, ⟨by omega, zb45⟩, ⟨by rw [← hR.out, hstep.out, hh, if_pos rfl]⟩, R6, LB6⟩
   | false =>
    go_wp2
    go_roundg k1
    case measure => omega
    case rel => exact ⟨b, k, x + 1, rfl, rfl, rfl, ⟨by omega, zb45⟩, ⟨by rw [← hR.out, hstep.out, hh, if_neg (by simp)]⟩, R6, LB6⟩
end Go.Proofs.YtphnphmbfogmlaaGreat.Pr
