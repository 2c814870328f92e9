import Derived.Test.YtphnphmbfogmlaaGreatQFByq
import Derived.Test.YtphnphmbfogmlaaGreatQFPrK
import Derived.Test.YtphnphmbfogmlaaGreatQFSx
import Derived.Test.YtphnphmbfogmlaaGreatQFPrInts
import Derived.Test.YtphnphmbfogmlaaGreatQFPrCps
import Derived.Test.YtphnphmbfogmlaaGreatQFPrLC2
import Derived.Test.YtphnphmbfogmlaaGreatQFEngP
import Derived.Test.YtphnphmbfogmlaaGreatQFLastOf
import Derived.Test.YtphnphmbfogmlaaGreatQFPrNeed
namespace Go.Proofs.YtphnphmbfogmlaaGreat.Pr
open Go.RowKit Go.PW Go.PL Go.PM Go.Proofs.YtphnphmbfogmlaaGreat.T
set_option linter.unusedVariables false
set_option linter.unusedSimpArgs false
def PN (p : S56) : Bool := Zr p.f0 p.f1 p.f2
def FO (p : S56) : Bool := !PN p
def Ji (l : List S56) : Bool := (l.length : Int) == 5 && !l.any FO
theorem EJ (a b : Int) (A : Option Addr) (c : Nat) (l : List Int) (w : World) (hC : CI w A l) (hc : l.length ≤ c) :
 Calls Tryz.prog 78 #[.agg #[.int .i64 a, .int .i64 b, .slice A l.length c]] w fun e w' => e = .returned (.bool (!Zr a b l)) ∧ Below w.heap.size w w' := by
 have HC := zz (XmX hC (.cells #[.int .i64 a, .int .i64 b, .slice A l.length c] 56)); have HCc := zz hc; clear hC hc
 go_enter Tryz.func78, Tryz.ntmps78
 go_wp2_with fail
 refine (Mo a b A c l _ HC.out HCc.out).mono ?_; rintro e w1 ⟨rfl, hb⟩; have HB := zz (Xc (Xj (Below.refl w.heap.size w) _) hb); clear hb
 go_wp2
 go_ret
 exact ⟨rfl, HB.out⟩
theorem XkY (l : List S56) (k : Nat) (h : k < l.length) : (l.take (k + 1)).any FO = ((l.take k).any FO || FO (Xb l (k : Int))) := by
 have e : l.take (k + 1) = l.take k ++ [Xb l (k : Int)] := by
  rw [List.take_add_one, List.getElem?_eq_getElem h]
  simp [Xb, List.getD_eq_getElem?_getD, List.getElem?_eq_getElem h]
 rw [e, List.any_append]
 simp
set_option maxHeartbeats 4000000 in
set_option maxRecDepth 100000 in
theorem TK (A : Option Addr) (c : Nat) (l : List S56) (w : World) (hC : Kd.C k56 w A l.length l) (hc : l.length ≤ c) :
 Calls Tryz.prog 99 #[.slice A l.length c, .func (Fn.func 78) #[] #[]] w fun e w' => ∃ r : Int, e = .returned (.int .i64 r) ∧ decide (0 ≤ r) = l.any FO ∧ Below w.heap.size w w' := by
 have hm : l.length ≤ 9223372036854775807 := hC.2.1; have HC := zz hC; have HB0 := zz (Below.refl w.heap.size w); clear hC
 go_enter Tryz.func99, Tryz.ntmps99
 go_wp2
 go_loopg [8] l.length (fun kq v8 w' => ∃ j : Nat, v8 = .int .i64 (j : Int) ∧ Aside0 (j + kq = l.length) ∧ Aside0 ((l.take j).any FO = false) ∧ Aside0 (Below w.heap.size w w'))
 case atStart => exact ⟨0, rfl, ⟨by omega⟩, ⟨by simp⟩, HB0⟩
 case round =>
  clear HB0; obtain ⟨j, rfl, hj, hA, HB⟩ := hrel
  cases gk with
  | zero =>
   have hj' : j = l.length := by have := hj.out; omega
   have qb : decide ((j : Int) < (l.length : Int)) = false := decide_eq_false (by omega)
   go_wp2
   go_ret
   refine ⟨_, rfl, ?_, HB.out⟩; have h3 := hA.out; rw [hj', List.take_length] at h3; rw [h3]
   rfl
  | succ k1 =>
   have hlt : j < l.length := by have := hj.out; omega
   have HS := zz (XkY l j hlt); obtain ⟨ad, A2, c2, e2, hx0, hx1, hx2, hl2, hi2⟩ := Zl (Kd.Xg HC.out HB.out) (j : Int) (by omega) (by omega); subst e2; simp only [Int.toNat_natCast] at hx0 hx1 hx2; have p0 := eq_true (show (0 : Int) ≤ (j : Int) by omega); have p1 := eq_true (show (j : Int) < (l.length : Int) by omega); have qb : decide ((j : Int) < (l.length : Int)) = true := decide_eq_true (by omega); have HI := zz hi2; have HL := zz hl2; clear hi2 hl2
   go_wp2_with fail
   refine (EJ _ _ A2 c2 _ _ HI.out HL.out).mono ?_; rintro e w1 ⟨rfl, hb⟩; have HB1 := zz (Xc HB.out hb); clear hb HB hx0 hx1 hx2
   by_cases hb : Zr (Xb l (j : Int)).f0 (Xb l (j : Int)).f1 (Xb l (j : Int)).f2 = true
   ·rw [hb]
    have hw : IntKind.i64.wrap ((j : Int) + 1) = ((j + 1 : Nat) : Int) := by rw [Xz, T.wrap_small (by omega) (by omega)]; omega
    have hw2 : wrap64 ((j : Int) + 1) = ((j + 1 : Nat) : Int) := by rw [T.wrap_small (by omega) (by omega)]; omega
    go_wp2
    go_roundg k1
    case measure => omega
    case rel => exact ⟨j + 1, by first | rfl | (simp [hw, hw2]; done) | (congr 1), ⟨by have := hj.out; omega⟩, ⟨by rw [HS.out, hA.out]; unfold FO PN; rw [hb]; rfl⟩, HB1⟩
   ·have hb2 : Zr (Xb l (j : Int)).f0 (Xb l (j : Int)).f1 (Xb l (j : Int)).f2 = false := by simpa using hb
    rw [hb2]
    go_wp2
    go_ret
    refine ⟨_, rfl, ?_, HB1.out⟩
    have h2 : (l.take (j + 1)).any FO = true := by rw [HS.out]; unfold FO PN; rw [hb2]; simp
    have h3 : l.any FO = true := by
     rw [List.any_eq_true] at h2 ⊢; obtain ⟨x, hx, hpx⟩ := h2; exact ⟨x, List.mem_of_mem_take hx, hpx⟩
    rw [h3]
    simp
theorem WH (A : Option Addr) (c : Nat) (l : List S56) (w : World) (hC : Kd.C k56 w A l.length l) (hc : l.length ≤ c) :
 Calls Tryz.prog 77 #[.slice A l.length c, .func (Fn.func 78) #[] #[]] w fun e w' => e = .returned (.bool (l.any FO)) ∧ Below w.heap.size w w' := by
 have HC := zz hC; have HCc := zz hc; clear hC hc
 go_enter Tryz.func77, Tryz.ntmps77
 go_wp2_with fail
 refine (TK A c l _ HC.out HCc.out).mono ?_; rintro e w1 ⟨r, rfl, hr, hb⟩; have HR := zz hr; have HB := zz hb; clear hr hb
 go_wp2
 go_ret
 exact ⟨by rw [← HR.out]; rfl, HB.out⟩
set_option maxHeartbeats 4000000 in
theorem UZ (A : Option Addr) (c : Nat) (l : List S56) (w : World) (hC : Kd.C k56 w A l.length l) (hc : l.length ≤ c) :
 Calls Tryz.prog 50 #[.slice A l.length c] w fun e w' => e = .returned (.bool (Ji l)) ∧ Below w.heap.size w w' := by
 have HC := zz hC; have HCc := zz hc; have HB0 := zz (Below.refl w.heap.size w)
 unfold Ji
 clear hC hc
 go_enter Tryz.func50, Tryz.ntmps50
 by_cases hl : ((l.length : Int) == 5) = true
 ·rw [hl]
  go_wp2_with fail
  refine (WH A c l _ HC.out HCc.out).mono ?_; rintro e w1 ⟨rfl, hb⟩; have HB := zz hb; clear hb HB0
  go_wp2
  go_ret
  exact ⟨by simp, HB.out⟩
 ·have hl2 : ((l.length : Int) == 5) = false := by simpa using hl
  rw [hl2]; clear hl
  go_wp2
  go_ret
  exact ⟨rfl, HB0.out⟩
def Um.f (k : Nat) (l0 : List S56) : Option Bool := some (Ji l0)
theorem Um.calls (k : Nat) (A0 : Option Addr) (c0 : Nat) (l0 : List S56) (r : Bool) (w : World) (hr0 : Kd.C k56 w A0 l0.length l0) (hc0 : l0.length ≤ c0) (h : Um.f k l0 = some r) :
 Calls Tryz.prog 50 #[.slice A0 l0.length c0] w fun e w' => e = .returned (.bool r) ∧ Below w.heap.size w w' := by
 obtain rfl := Option.some.inj h; exact UZ A0 c0 l0 w hr0 hc0
end Go.Proofs.YtphnphmbfogmlaaGreat.Pr
namespace Go.Proofs.YtphnphmbfogmlaaGreat.Pr
open Go.RowKit Go.PW Go.PL Go.PM
attribute [local go_sem] Y3 Y4 YN YO Ya Yb Y5 Y6
set_option linter.unusedVariables false
set_option linter.unusedSimpArgs false
def Zy.l0 : Nat → List (S76) → Int → Int → Option (Bool)
 | 0, _, _, _ => none
 | k + 1, x0, x2, x7 => if x7 > 0 then (if 0 ≤ (wrap64 (x7 - 1)) then (if (wrap64 (x7 - 1)) < (x0.length : Int) then (if ((Xa x0 (wrap64 (x7 - 1))).f2) = x2 then (some true) else (Zy.l0 k x0 x2 ((Xa x0 (wrap64 (x7 - 1))).f6))) else (none)) else (none)) else (some false)
def Zy.f (k : Nat) (l0 : List (S76)) (a1 : Int) (a2 : Int) : Option (Bool) := (Yr.f k l0 a1).bind fun XeO => (Zy.l0 k l0 a2 XeO)
set_option maxHeartbeats 8000000 in
set_option maxRecDepth 100000 in
theorem Zy.calls (k : Nat) (A0 : Option Addr) (c0 : Nat) (l0 : List (S76)) (a1 : Int) (a2 : Int) (r : Bool) (w : World) (hr0 : Kd.C k76 w A0 l0.length l0) (hc0 : l0.length ≤ c0) (h : Zy.f k l0 a1 a2 = some r) :
 Calls Tryz.prog 49 #[.slice A0 l0.length c0, .int .i64 a1, .int .i64 a2] w fun e w' => e = .returned (.bool r) ∧ ZE w w' := by
 have HR0 := zz hr0; have HC0 := zz hc0; clear hr0 hc0; have H : ((Yr.f k l0 a1).bind fun XeO => (Zy.l0 k l0 a2 XeO)) = some r := h; clear h; replace H := Option.bind_eq_some_iff.mp H; obtain ⟨XeO, A40, H⟩ := H; replace H : (Zy.l0 k l0 a2 XeO) = some r := H; have A4 := zz A40; clear A40; have H' := zz H; clear H
 go_enter Tryz.func49, Tryz.ntmps49
 go_wp2_with (first | ((with_reducible refine Xo (f := 72) rfl ?_); refine Yx (some 10) rfl rfl Tryz.func72 zb6 rfl #[.slice A0 l0.length c0, .int .i64 a1] rfl zb2 ?_; (with_reducible refine (Yr.calls k _ _ l0 a1 XeO _ ?side1 ?side2 A4.out).mono ?_); (case side1 => exact zb16); (case side2 => exact HC0.out); rintro e w' ⟨rfl, ⟨nd, rfl⟩⟩; refine ⟨_, rfl, ?_⟩))
 go_loopg [7] k (fun kq v7 w' => ∃ (J5 : Int), v7 = .int .i64 J5 ∧ Aside0 (Zy.l0 kq l0 a2 J5 = some r) ∧ Aside0 (kq ≤ k) ∧ ZE w w')
 case atStart => exact ⟨(XeO), zb5, H', ⟨Nat.le_refl _⟩, zb9⟩
 case round =>
  clear H'
  try clear p2
  try clear c4
  obtain ⟨J5, rfl, HA, HK1, ⟨m1, rfl⟩⟩ := hrel
  cases gk with
  | zero => exact absurd HA.out (by simp [Zy.l0])
  | succ k1 =>
   have H := HA.out; clear HA; simp only [Zy.l0] at H
   by_cases c5 : J5 > 0
   ·rw [if_pos c5] at H
    have c5b0 : decide (0 < J5) = true := decide_eq_true c5; clear c5
    obtain ⟨ji6, hji6⟩ : ∃ j_ : Int, (wrap64 (J5 - 1)) = j_ := ⟨_, rfl⟩
    replace H : (if 0 ≤ (ji6) then (if (ji6) < (l0.length : Int) then (if ((Xa l0 (ji6)).f2) = a2 then (some true) else (Zy.l0 k1 l0 a2 ((Xa l0 (ji6)).f6))) else (none)) else (none)) = some r := by first | (rw [hji6] at H; exact H) | (simp only [hji6] at H ⊢; exact H)
    have hji6w : (IntKind.i64.wrap (J5 - 1)) = ji6 := (Xz _).trans hji6
    by_cases c7 : 0 ≤ (ji6)
    ·rw [if_pos c7] at H
     have c7b0 : decide (0 ≤ (ji6)) = true := decide_eq_true c7; clear c7
     by_cases c8 : (ji6) < (l0.length : Int)
     ·rw [if_pos c8] at H
      have c8b0 : decide ((ji6) < (l0.length : Int)) = true := decide_eq_true c8; clear c8
      by_cases c9 : ((Xa l0 (ji6)).f2) = a2
      ·rw [if_pos c9] at H
       have c9b0 : (((Xa l0 (ji6)).f2) == a2) = true := beq_iff_eq.mpr c9; have c9b1 : (((Xa l0 (ji6)).f2) != a2) = false := bne_eq_false_iff_eq.mpr c9; clear c9; obtain rfl := Option.some.inj H; have XeP : 0 ≤ ((ji6) : Int) := of_decide_eq_true zb3; have XeQ : (ji6) < (l0.length : Int) := of_decide_eq_true zb3; obtain ⟨Xsg, Xt5, Xqu, Xqv, Xqw, Xqx, Xqy, Xqz, Xq0, Xq1⟩ := Ym HR0.out (ji6) XeP XeQ
       cases Xt5
       replace XeP := eq_true XeP; replace XeQ := eq_true XeQ
       go_wp2
       go_ret
       exact ⟨zb54, zb9⟩
      ·rw [if_neg c9] at H
       have c9b0 : (((Xa l0 (ji6)).f2) == a2) = false := beq_eq_false_iff_ne.mpr c9; have c9b1 : (((Xa l0 (ji6)).f2) != a2) = true := bne_iff_ne.mpr c9; have H' := zz H; clear H; have XeP : 0 ≤ ((ji6) : Int) := of_decide_eq_true zb3; have XeQ : (ji6) < (l0.length : Int) := of_decide_eq_true zb3; obtain ⟨Xsg, Xt5, Xqu, Xqv, Xqw, Xqx, Xqy, Xqz, Xq0, Xq1⟩ := Ym HR0.out (ji6) XeP XeQ
       cases Xt5
       replace XeP := eq_true XeP; replace XeQ := eq_true XeQ; have Xt6 : 0 ≤ ((ji6) : Int) := of_decide_eq_true zb3; have Xt7 : (ji6) < (l0.length : Int) := of_decide_eq_true zb3; obtain ⟨XvI, e238, X0c, X0d, X0e, X0f, X0g, X0h, X0i, X0j⟩ := Ym HR0.out (ji6) Xt6 Xt7
       obtain rfl : Xsg = XvI := (by injection e238)
       replace Xt6 := eq_true Xt6; replace Xt7 := eq_true Xt7
       go_wp2
       go_roundg k1
       case measure => have := HK1.out; omega
       case rel => exact ⟨((Xa l0 (ji6)).f6), zb54, H', ⟨zb33⟩, zb9⟩
     ·rw [if_neg c8] at H
      exact absurd H (by simp)
    ·rw [if_neg c7] at H
     exact absurd H (by simp)
   ·rw [if_neg c5] at H
    have c5b0 : decide (0 < J5) = false := decide_eq_false c5; clear c5; obtain rfl := Option.some.inj H
    go_wp2
    go_ret
    exact ⟨zb5, zb9⟩
end Go.Proofs.YtphnphmbfogmlaaGreat.Pr
namespace Go.Proofs.YtphnphmbfogmlaaGreat.T
open Go.RowKit Go.PW Go.Proofs.YtphnphmbfogmlaaGreat.Pr
set_option linter.unusedSimpArgs false
set_option linter.unusedVariables false
abbrev Pg := S56
abbrev pg (D : List Pg) (i : Int) : Pg := Xb D i
def doB (p : Pg) (slot new lsn : Int) : Pg := if 0 ≤ slot then ⟨lsn, p.f1, p.f2.set slot.toNat new⟩ else if new = 0 then ⟨lsn, 0, [0, 0, 0]⟩ else ⟨lsn, new, p.f2⟩
def Ut (L : List Rc) (D : List Pg) (i : Nat) : List Pg :=
 if PH (rc L (i : Int)).f0 = true ∧ (pg D (rc L (i : Int)).f2).f0 < (i : Int) + 1 then D.set (rc L (i : Int)).f2.toNat (doB (pg D (rc L (i : Int)).f2) (rc L (i : Int)).f3 (rc L (i : Int)).f5 ((i : Int) + 1)) else D
def XE (D : List Pg) (L : List Rc) : List Pg := (List.range L.length).foldl (Ut L) D
def Vp (L : List Rc) : Nat → Int → List Int
 | 0, _ => []
 | n + 1, a => if 0 < Zx L L.length a then Zx L L.length a :: Vp L n (rc L (Zx L L.length a - 1)).f6 else []
def SQ (L : List Rc) : List Int := Vp L L.length (lastB L 1) ++ (Vp L L.length (lastB L 2) ++ Vp L L.length (lastB L 3))
def U4 (D : List Pg) (L : List Rc) (n : Int) : Pg := doB (pg D (rc L (n - 1)).f2) (rc L (n - 1)).f3 (rc L (n - 1)).f4 (pg D (rc L (n - 1)).f2).f0
def MV (L : List Rc) : List Pg → List Int → Bool
 | _, [] => true
 | D, n :: q => PN (U4 D L n) && MV L (D.set (rc L (n - 1)).f2.toNat (U4 D L n)) q
def preB (D : List Pg) (L : List Rc) : Bool := Ji (XE D L) && MV L (XE D L) (SQ L)
def VC (a b : Pg) : Bool := a.f0 == b.f0 && a.f1 == b.f1 && a.f2 == b.f2
def UX (l : List Rc) (n : Int) : Int := (rc l (n - 1)).f2
def Ux (l : List Rc) (a : Int) : List Int := chainB l l.length (lastB l a)
def hasB (l : List Rc) (a p : Int) : Bool := ((Ux l a).map (UX l)).any (fun y => y == p)
def loadT (l : List Rc) (a p : Int) : Bool := (Ux l a).any (fun n => (rc l (n - 1)).f0 == 3 && (rc l (n - 1)).f2 == p)
def JL (l : List Rc) (p : Int) : Bool := loadT l 1 p || (loadT l 2 p || loadT l 3 p)
def Mj (l : List Rc) (p : Int) : Nat := (if hasB l 1 p = true then 1 else 0) + (if hasB l 2 p = true then 1 else 0) + (if hasB l 3 p = true then 1 else 0)
def De (D M : List Pg) (L : List Rc) (p : Int) : Bool := (pg M p).f0 == Vm L p && (decide ((pg D p).f0 < (pg M p).f0) || VC (pg M p) (pg D p))
def Vq (D M : List Pg) (L : List Rc) (s : Int) (d : Bool) (p : Int) : Bool :=
 decide ((pg D p).f0 ≤ s) && (decide (Mj L p ≤ 1) && (if d = true then VC (pg M p) (pg D p) else if JL L p = true then (De D M L p && (pg M p).f1 == (pg (XE D L) p).f1) else VC (pg M p) (pg (XE D L) p)))
def Vr (D M : List Pg) (L : List Rc) (s : Int) : Bool := Ji D && (Ji M && (YP L && (inB s 0 (L.length : Int) && decide (L.length + Uu L ≤ 150))))
def Jm (D M : List Pg) (L : List Rc) (s : Int) (d : Bool) : Bool :=
 Vr D M L s && ((List.range (L.length + 1)).all (fun n => decide ((n : Int) < s) || preB D (L.take n)) && (List.range 5).all (fun p => Vq D M L s d (p : Int)))
theorem JY {D M : List Pg} {L : List Rc} {s : Int} {d : Bool} (h : Vr D M L s = false) : Jm D M L s d = false := by unfold Jm; rw [h]; rfl
theorem XiG {D M : List Pg} {L : List Rc} {s : Int} {d : Bool} (n : Nat) (hn : n ≤ L.length) (hs : s ≤ (n : Int)) (h : preB D (L.take n) = false) : Jm D M L s d = false := by
 unfold Jm
 have h1 : (List.range (L.length + 1)).all (fun n => decide ((n : Int) < s) || preB D (L.take n)) = false := by
  rw [List.all_eq_false]; exact ⟨n, zb99, by simp [h]; omega⟩
 rw [h1]
 simp
theorem Nz {D M : List Pg} {L : List Rc} {s : Int} {d : Bool} (p : Nat) (hp : p < 5) (h : Vq D M L s d (p : Int) = false) : Jm D M L s d = false := by
 unfold Jm
 have h1 : (List.range 5).all (fun p => Vq D M L s d (p : Int)) = false := by
  rw [List.all_eq_false]; exact ⟨p, zb99, by simp [h]⟩
 rw [h1]
 simp
theorem Xrj {D M : List Pg} {L : List Rc} {s : Int} {d : Bool} (h0 : Vr D M L s = true) (h1 : ∀ n : Nat, n ≤ L.length → s ≤ (n : Int) → preB D (L.take n) = true) (h2 : ∀ p : Nat, p < 5 → Vq D M L s d (p : Int) = true) : Jm D M L s d = true := by
 unfold Jm
 have e1 : (List.range (L.length + 1)).all (fun n => decide ((n : Int) < s) || preB D (L.take n)) = true := by
  rw [List.all_eq_true]; intro n hn
  have hn' : n ≤ L.length := by simp at hn; omega
  by_cases hs : (n : Int) < s
  ·simp [hs]
  ·rw [h1 n hn' (by omega)]; simp
 have e2 : (List.range 5).all (fun p => Vq D M L s d (p : Int)) = true := by
  rw [List.all_eq_true]; intro p hp; exact h2 p (by simpa using hp)
 rw [h0, e1, e2]
 rfl
end Go.Proofs.YtphnphmbfogmlaaGreat.T
