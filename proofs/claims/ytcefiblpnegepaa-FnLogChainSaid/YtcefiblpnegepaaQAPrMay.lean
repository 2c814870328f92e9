import Derived.Test.YtcefiblpnegepaaQAByq
import Derived.Test.YtcefiblpnegepaaQASq
import Derived.Test.YtcefiblpnegepaaQASx
import Derived.Test.YtcefiblpnegepaaQAPrNeed
namespace Go.Proofs.Ytcefiblpnegepaa.Pr
open Go.RowKit Go.PW Go.PL Go.PM
attribute [local go_sem] YB YC Zc Zd Yn Yo YD YE
set_option linter.unusedVariables false
set_option linter.unusedSimpArgs false
def Z9.l0 : Nat → List (S41) → Int → Int → Option (Bool)
 | 0, _, _, _ => none
 | k + 1, x0, x2, x7 => if x7 > 0 then (if 0 ≤ (wrap64 (x7 - 1)) then (if (wrap64 (x7 - 1)) < (x0.length : Int) then (if ((Xa x0 (wrap64 (x7 - 1))).f2) = x2 then (some true) else (Z9.l0 k x0 x2 ((Xa x0 (wrap64 (x7 - 1))).f6))) else (none)) else (none)) else (some false)
def Z9.f (k : Nat) (l0 : List (S41)) (a1 : Int) (a2 : Int) : Option (Bool) := (Xn.f k l0 a1).bind fun Ee => (Z9.l0 k l0 a2 Ee)
set_option maxHeartbeats 8000000 in
set_option maxRecDepth 100000 in
theorem Z9.calls (k : Nat) (A0 : Option Addr) (c0 : Nat) (l0 : List (S41)) (a1 : Int) (a2 : Int) (r : Bool) (w : World) (hr0 : Kd.C k41 w A0 l0.length l0) (hc0 : l0.length ≤ c0) (h : Z9.f k l0 a1 a2 = some r) :
  Calls Try.prog 108 #[.slice A0 l0.length c0, .int .i64 a1, .int .i64 a2] w fun e w' => e = .returned (.bool r) ∧ Vp w w' := by
 have HR0 := az hr0; have HC0 := az hc0; clear hr0 hc0; have H : ((Xn.f k l0 a1).bind fun Ee => (Z9.l0 k l0 a2 Ee)) = some r := h; clear h; replace H := Option.bind_eq_some_iff.mp H; obtain ⟨Ee, A40, H⟩ := H; replace H : (Z9.l0 k l0 a2 Ee) = some r := H; have A4 := az A40; clear A40; have H' := az H; clear H
 go_enter Try.func108, Try.ntmps108
 go_wp2_with (first | ((with_reducible refine Xg (f := 84) rfl ?_); refine Xz (some 10) rfl rfl Try.func84 zb14 rfl #[.slice A0 l0.length c0, .int .i64 a1] rfl zb0 ?_; (with_reducible refine (Xn.calls k _ _ l0 a1 Ee _ ?side1 ?side2 A4.out).mono ?_); (case side1 => exact zb17); (case side2 => exact HC0.out); rintro e w' ⟨rfl, ⟨nd, rfl⟩⟩; refine ⟨_, rfl, ?_⟩))
 go_loopg [7] k (fun kq v7 w' => ∃ (WB : Int), v7 = .int .i64 WB ∧ Aside0 (Z9.l0 kq l0 a2 WB = some r) ∧ Aside0 (kq ≤ k) ∧ Vp w w')
 case atStart => exact ⟨(Ee), zb12, H', ⟨Nat.le_refl _⟩, zb25⟩
 case round =>
  clear H';(try clear c1);(try clear p2)
  obtain ⟨WB, rfl, HA, HK1, ⟨m1, rfl⟩⟩ := hrel
  cases gk with
  | zero => exact absurd HA.out (by simp [Z9.l0])
  | succ k1 =>
   have H := HA.out; clear HA; simp only [Z9.l0] at H
   by_cases c5 : WB > 0
   ·rw [if_pos c5] at H
    have c5b0 : decide (0 < WB) = true := decide_eq_true c5; clear c5
    obtain ⟨ji6, hji6⟩ : ∃ j_ : Int, (wrap64 (WB - 1)) = j_ := ⟨_, rfl⟩
    replace H : (if 0 ≤ (ji6) then (if (ji6) < (l0.length : Int) then (if ((Xa l0 (ji6)).f2) = a2 then (some true) else (Z9.l0 k1 l0 a2 ((Xa l0 (ji6)).f6))) else (none)) else (none)) = some r := by first | (rw [hji6] at H; exact H) | (simp only [hji6] at H ⊢; exact H)
    have hji6w : (IntKind.i64.wrap (WB - 1)) = ji6 := (XB _).trans hji6
    by_cases c7 : 0 ≤ (ji6)
    ·rw [if_pos c7] at H
     have c7b0 : decide (0 ≤ (ji6)) = true := decide_eq_true c7; clear c7
     by_cases c8 : (ji6) < (l0.length : Int)
     ·rw [if_pos c8] at H
      have c8b0 : decide ((ji6) < (l0.length : Int)) = true := decide_eq_true c8; clear c8
      by_cases c9 : ((Xa l0 (ji6)).f2) = a2
      ·rw [if_pos c9] at H
       have c9b0 : (((Xa l0 (ji6)).f2) == a2) = true := beq_iff_eq.mpr c9; have c9b1 : (((Xa l0 (ji6)).f2) != a2) = false := bne_eq_false_iff_eq.mpr c9; clear c9; obtain rfl := Option.some.inj H; have Ef : 0 ≤ ((ji6) : Int) := of_decide_eq_true zb7; have Eg : (ji6) < (l0.length : Int) := of_decide_eq_true zb7; obtain ⟨Xgz, Xg0, Xg1, Xg2, Xg3, Xg4, Xg5, Xg6, Xg7, Xg8⟩ := XV HR0.out (ji6) Ef Eg
       cases Xg0
       replace Ef := eq_true Ef; replace Eg := eq_true Eg
       go_wp2
       go_ret
       exact ⟨zb83, zb25⟩
      ·rw [if_neg c9] at H
       have c9b0 : (((Xa l0 (ji6)).f2) == a2) = false := beq_eq_false_iff_ne.mpr c9; have c9b1 : (((Xa l0 (ji6)).f2) != a2) = true := bne_iff_ne.mpr c9; have H' := az H; clear H; have Ef : 0 ≤ ((ji6) : Int) := of_decide_eq_true zb7; have Eg : (ji6) < (l0.length : Int) := of_decide_eq_true zb7; obtain ⟨Xgz, Xg0, Xg1, Xg2, Xg3, Xg4, Xg5, Xg6, Xg7, Xg8⟩ := XV HR0.out (ji6) Ef Eg
       cases Xg0
       replace Ef := eq_true Ef; replace Eg := eq_true Eg; have Xg9 : 0 ≤ ((ji6) : Int) := of_decide_eq_true zb7; have XgA : (ji6) < (l0.length : Int) := of_decide_eq_true zb7; obtain ⟨XnX, Xtt, Xtu, Xtv, Xtw, Xtx, Xty, Xtz, Xt0, Xt1⟩ := XV HR0.out (ji6) Xg9 XgA
       obtain rfl : Xgz = XnX := (by injection Xtt)
       replace Xg9 := eq_true Xg9; replace XgA := eq_true XgA
       go_wp2
       go_roundg k1
       case measure => have := HK1.out; omega
       case rel => exact ⟨((Xa l0 (ji6)).f6), zb83, H', ⟨zb54⟩, zb25⟩
     ·rw [if_neg c8] at H
      exact absurd H (by simp)
    ·rw [if_neg c7] at H
     exact absurd H (by simp)
   ·rw [if_neg c5] at H
    have c5b0 : decide (0 < WB) = false := decide_eq_false c5; clear c5; obtain rfl := Option.some.inj H
    go_wp2
    go_ret
    exact ⟨zb12, zb25⟩
def XJ.l0 : Nat → Int → Int → List (S25) → List (S25) → List (S41) → Int → Bool → Option (Int)
 | 0, _, _, _, _, _, _, _ => none
 | k + 1, x1, x5, XgB, XgC, XaM, XgD, XgE => if x5 ≤ 3 then ((Z9.f k XaM x5 x1).bind fun Xd3 => (if Xd3 = true then (some x5) else (XJ.l0 k x1 (wrap64 (x5 + 1)) XgB XgC XaM XgD XgE))) else (some 0)
def XJ.f (k : Nat) (Y1 : List (S25)) (Yd : List (S25)) (X9 : List (S41)) (Yl : Int) (Y6 : Bool) (a1 : Int) : Option (Int) := XJ.l0 k a1 1 Y1 Yd X9 Yl Y6
set_option maxHeartbeats 8000000 in
set_option maxRecDepth 100000 in
theorem XJ.calls (k : Nat) (JL : Option Addr) (JM : Nat) (Y1 : List (S25)) (JV : Option Addr) (J9 : Nat) (Yd : List (S25)) (Vi : Option Addr) (Vj : Nat) (X9 : List (S41)) (Yl : Int) (Y6 : Bool) (a1 : Int) (r : Int) (w : World) (hr0_0 : Kd.C k25 w JL Y1.length Y1) (hc0_0 : Y1.length ≤ JM) (hr0_1 : Kd.C k25 w JV Yd.length Yd) (hc0_1 : Yd.length ≤ J9) (hr0_2 : Kd.C k41 w Vi X9.length X9) (hc0_2 : X9.length ≤ Vj) (h : XJ.f k Y1 Yd X9 Yl Y6 a1 = some r) :
  Calls Try.prog 131 #[.agg #[.slice JL Y1.length JM, .slice JV Yd.length J9, .slice Vi X9.length Vj, .int .i64 Yl, .bool Y6], .int .i64 a1] w fun e w' => e = .returned (.int .i64 r) ∧ Below w.heap.size w w' := by
 have hu52 := Try.underlying52; have Xcr := az hr0_0; have OQ := az hc0_0; clear hr0_0 hc0_0; have Xcq := az hr0_1; have Bg := az hc0_1; clear hr0_1 hc0_1; have Rb := az hr0_2; have Rh := az hc0_2; clear hr0_2 hc0_2; have HB := az (Below.refl w.heap.size w); have H : (XJ.l0 k a1 1 Y1 Yd X9 Yl Y6) = some r := h; clear h; have H' := az H; clear H
 go_enter Try.func131, Try.ntmps131
 go_wp2_with (first | ((with_reducible refine XO (N := 2) rfl ?_); refine Y4 ?hg (N := 2) ?hd (cs := #[.slice JL Y1.length JM, .slice JV Yd.length J9, .slice Vi X9.length Vj, .int .i64 Yl, .bool Y6]) (t := 52) ?hr ?_; (case hd => rfl); (case hg => rfl); (case hr => exact zb22); intro XgF hg w3 hbox hb; have Kh := az (hbox); have XnY := az ((zb148 : w.heap.size ≤ XgF)); have GE1174 := XnY; replace HB := az (Xe zb1 hb); clear hb hbox hg))
 go_loopg [5] k (fun kq v5 w' => ∃ (Yj : Int), v5 = .int .i64 Yj ∧ Aside0 (XJ.l0 kq a1 Yj Y1 Yd X9 Yl Y6 = some r) ∧ Aside0 (kq ≤ k) ∧ Aside0 (w'.heap[XgF]? = some (.cells #[(.slice JL Y1.length JM), (.slice JV Yd.length J9), (.slice Vi X9.length Vj), .int .i64 Yl, .bool Y6] 52 (0, 0))) ∧ Aside0 (Below w.heap.size w w'))
 case atStart => exact ⟨(1), zb12, H', ⟨Nat.le_refl _⟩, ⟨by (with_reducible repeat (first | apply bn | apply bd | apply ba)); exact Kh.out⟩, ⟨zb6⟩⟩
 case round =>
  clear H';(try clear c1);(try clear p2)
  obtain ⟨Yj, rfl, HA, HK1, Kh, HB⟩ := hrel
  cases gk with
  | zero => exact absurd HA.out (by simp [XJ.l0])
  | succ k1 =>
   have H := HA.out; clear HA; simp only [XJ.l0] at H
   by_cases c4 : Yj ≤ 3
   ·rw [if_pos c4] at H
    have c4b0 : decide (Yj ≤ 3) = true := decide_eq_true c4; clear c4; replace H := Option.bind_eq_some_iff.mp H; obtain ⟨Xd3, A50, H⟩ := H; replace H : (if Xd3 = true then (some Yj) else (XJ.l0 k1 a1 (wrap64 (Yj + 1)) Y1 Yd X9 Yl Y6)) = some r := H; have A5 := az A50; clear A50
    by_cases c6 : Xd3 = true
    ·subst c6
     have H1 : (some Yj) = some r := by rw [if_pos rfl] at H; exact H
     clear H; have H := H1; clear H1; obtain rfl := Option.some.inj H; obtain ⟨XeY, XeZ, Xfa, XmN, XmO⟩ := cz5 Kh; obtain ⟨Xfb, Xfc, Xfd, XmP, XmQ⟩ := fz5 Kh
     go_wp2_with (first | ((with_reducible refine Xg (f := 108) rfl ?_); refine Xz (some 14) rfl rfl Try.func108 zb14 rfl #[.slice Vi X9.length Vj, .int .i64 Yj, .int .i64 a1] rfl zb0 ?_; (with_reducible refine (Z9.calls k1 _ _ X9 Yj a1 true _ ?side1 ?side2 A5.out).mono ?_); (case side1 => exact zb61); (case side2 => exact Rh.out); rintro e w' ⟨rfl, ⟨nd, rfl⟩⟩; refine ⟨_, rfl, ?_⟩))
     go_ret
     exact ⟨zb8, zb6⟩
    ·replace c6 := Bool.eq_false_iff.mpr c6
     subst c6
     have H1 : (XJ.l0 k1 a1 (wrap64 (Yj + 1)) Y1 Yd X9 Yl Y6) = some r := by rw [if_neg (show ¬ (false = true) by decide)] at H; exact H
     clear H; have H := H1; clear H1; have H' := az H; clear H; obtain ⟨Xgt, Xgu, Xgv, hcz8_3, hcz8_4⟩ := cz5 Kh; obtain ⟨Xgw, Xgx, Xgy, hfz8_3, hfz8_4⟩ := fz5 Kh
     go_wp2_with (first | ((with_reducible refine Xg (f := 108) rfl ?_); refine Xz (some 14) rfl rfl Try.func108 zb14 rfl #[.slice Vi X9.length Vj, .int .i64 Yj, .int .i64 a1] rfl zb0 ?_; (with_reducible refine (Z9.calls k1 _ _ X9 Yj a1 false _ ?side1 ?side2 A5.out).mono ?_); (case side1 => exact zb61); (case side2 => exact Rh.out); rintro e w' ⟨rfl, ⟨nd, rfl⟩⟩; refine ⟨_, rfl, ?_⟩))
     go_roundg k1
     case measure => have := HK1.out; omega
     case rel => exact ⟨(wrap64 (Yj + 1)), zb12, H', ⟨zb54⟩, ⟨by (with_reducible repeat (first | apply bn | apply bd | apply ba)); exact Kh.out⟩, ⟨zb6⟩⟩
   ·rw [if_neg c4] at H
    have c4b0 : decide (Yj ≤ 3) = false := decide_eq_false c4; clear c4; obtain rfl := Option.some.inj H
    go_wp2
    go_ret
    exact ⟨zb8, zb6⟩
def Vf.f (k : Nat) (Y1 : List (S25)) (Yd : List (S25)) (X9 : List (S41)) (Yl : Int) (Y6 : Bool) (a1 : Int) (a2 : Int) : Option (Bool) := if Y6 = true then (some false) else ((XX.f a1 1 3).bind fun Rw => (if Rw = true then ((XX.f a2 0 4).bind fun SY => (if SY = true then ((XJ.f k Y1 Yd X9 Yl Y6 a2).bind fun Vv => (if Vv = 0 then (some true) else (some (Vv == a1)))) else (some false))) else (some false)))
set_option maxHeartbeats 8000000 in
set_option maxRecDepth 100000 in
theorem Vf.calls (k : Nat) (JL : Option Addr) (JM : Nat) (Y1 : List (S25)) (JV : Option Addr) (J9 : Nat) (Yd : List (S25)) (Vi : Option Addr) (Vj : Nat) (X9 : List (S41)) (Yl : Int) (Y6 : Bool) (a1 : Int) (a2 : Int) (r : Bool) (w : World) (hr0_0 : Kd.C k25 w JL Y1.length Y1) (hc0_0 : Y1.length ≤ JM) (hr0_1 : Kd.C k25 w JV Yd.length Yd) (hc0_1 : Yd.length ≤ J9) (hr0_2 : Kd.C k41 w Vi X9.length X9) (hc0_2 : X9.length ≤ Vj) (h : Vf.f k Y1 Yd X9 Yl Y6 a1 a2 = some r) :
  Calls Try.prog 152 #[.agg #[.slice JL Y1.length JM, .slice JV Yd.length J9, .slice Vi X9.length Vj, .int .i64 Yl, .bool Y6], .int .i64 a1, .int .i64 a2] w fun e w' => e = .returned (.bool r) ∧ Below w.heap.size w w' := by
 have hu52 := Try.underlying52; have Xcr := az hr0_0; have OQ := az hc0_0; clear hr0_0 hc0_0; have Xcq := az hr0_1; have Bg := az hc0_1; clear hr0_1 hc0_1; have Rb := az hr0_2; have Rh := az hc0_2; clear hr0_2 hc0_2; have HB := az (Below.refl w.heap.size w); have H : (if Y6 = true then (some false) else ((XX.f a1 1 3).bind fun Rw => (if Rw = true then ((XX.f a2 0 4).bind fun SY => (if SY = true then ((XJ.f k Y1 Yd X9 Yl Y6 a2).bind fun Vv => (if Vv = 0 then (some true) else (some (Vv == a1)))) else (some false))) else (some false)))) = some r := h; clear h
 by_cases c4 : Y6 = true
 ·subst c4
  have H1 : (some false) = some r := by rw [if_pos rfl] at H; exact H
  clear H; have H := H1; clear H1; obtain rfl := Option.some.inj H
  go_enter Try.func152, Try.ntmps152
  go_wp2_with (first | ((with_reducible refine XO (N := 3) rfl ?_); refine Y4 ?hg (N := 3) ?hd (cs := #[.slice JL Y1.length JM, .slice JV Yd.length J9, .slice Vi X9.length Vj, .int .i64 Yl, .bool true]) (t := 52) ?hr ?_; (case hd => rfl); (case hg => rfl); (case hr => exact zb22); intro Sv hg w5 hbox hb; have Vo := az (hbox); have Sw := az ((zb148 : w.heap.size ≤ Sv)); have QD := Sw; replace HB := az (Xe zb1 hb); clear hb hbox hg; obtain ⟨Bd, Be, Xbo, XmJ, XmK⟩ := cz5 Vo; obtain ⟨Xbp, Bf, Xbq, XmL⟩ := fz4 Vo; have XmM := Xf Vo.out 4))
  go_ret
  exact ⟨zb8, zb6⟩
 ·replace c4 := Bool.eq_false_iff.mpr c4
  subst c4
  have H1 : ((XX.f a1 1 3).bind fun Rw => (if Rw = true then ((XX.f a2 0 4).bind fun SY => (if SY = true then ((XJ.f k Y1 Yd X9 Yl false a2).bind fun Vv => (if Vv = 0 then (some true) else (some (Vv == a1)))) else (some false))) else (some false))) = some r := by rw [if_neg (show ¬ (false = true) by decide)] at H; exact H
  clear H; have H := H1; clear H1; replace H := Option.bind_eq_some_iff.mp H; obtain ⟨Rw, A70, H⟩ := H; replace H : (if Rw = true then ((XX.f a2 0 4).bind fun SY => (if SY = true then ((XJ.f k Y1 Yd X9 Yl false a2).bind fun Vv => (if Vv = 0 then (some true) else (some (Vv == a1)))) else (some false))) else (some false)) = some r := H; have A7 := az A70; clear A70
  by_cases c8 : Rw = true
  ·subst c8
   have H1 : ((XX.f a2 0 4).bind fun SY => (if SY = true then ((XJ.f k Y1 Yd X9 Yl false a2).bind fun Vv => (if Vv = 0 then (some true) else (some (Vv == a1)))) else (some false))) = some r := by rw [if_pos rfl] at H; exact H
   clear H; have H := H1; clear H1; replace H := Option.bind_eq_some_iff.mp H; obtain ⟨SY, A90, H⟩ := H; replace H : (if SY = true then ((XJ.f k Y1 Yd X9 Yl false a2).bind fun Vv => (if Vv = 0 then (some true) else (some (Vv == a1)))) else (some false)) = some r := H; have A9 := az A90; clear A90
   by_cases c10 : SY = true
   ·subst c10
    have H1 : ((XJ.f k Y1 Yd X9 Yl false a2).bind fun Vv => (if Vv = 0 then (some true) else (some (Vv == a1)))) = some r := by rw [if_pos rfl] at H; exact H
    clear H; have H := H1; clear H1; replace H := Option.bind_eq_some_iff.mp H; obtain ⟨Vv, XfY, H⟩ := H; replace H : (if Vv = 0 then (some true) else (some (Vv == a1))) = some r := H; have A11 := az XfY; clear XfY
    by_cases c12 : Vv = 0
    ·rw [if_pos c12] at H
     have XcV : (Vv == 0) = true := beq_iff_eq.mpr c12; have XgG : (Vv != 0) = false := bne_eq_false_iff_eq.mpr c12; clear c12; obtain rfl := Option.some.inj H
     go_enter Try.func152, Try.ntmps152
     go_wp2_with (first | ((with_reducible refine XO (N := 3) rfl ?_); refine Y4 ?hg (N := 3) ?hd (cs := #[.slice JL Y1.length JM, .slice JV Yd.length J9, .slice Vi X9.length Vj, .int .i64 Yl, .bool false]) (t := 52) ?hr ?_; (case hd => rfl); (case hg => rfl); (case hr => exact zb22); intro Sv hg w13 hbox hb; have Vo := az (hbox); have Sw := az ((zb148 : w.heap.size ≤ Sv)); have QD := Sw; replace HB := az (Xe zb1 hb); clear hb hbox hg; obtain ⟨IW, IX, IY, IZ, Qa⟩ := cz5 Vo; obtain ⟨Qb, Qc, Qd, Qe⟩ := fz4 Vo; have Qf := Xf Vo.out 4) | (go_at_call 81; (with_reducible refine (XX.calls a1 1 3 true _ A7.out).mono ?_); rintro e w' ⟨rfl, ⟨nd, rfl⟩⟩) | (go_at_call 81; (with_reducible refine (XX.calls a2 0 4 true _ A9.out).mono ?_); rintro e w' ⟨rfl, ⟨nd, rfl⟩⟩) | ((with_reducible refine Xg (f := 131) rfl ?_); refine Xz (some 22) rfl rfl Try.func131 zb14 rfl #[.agg #[.slice JL Y1.length JM, .slice JV Yd.length J9, .slice Vi X9.length Vj, .int .i64 Yl, .bool false], .int .i64 a2] rfl zb0 ?_; (with_reducible refine (XJ.calls k _ _ Y1 _ _ Yd _ _ X9 Yl false a2 Vv _ ?side1 ?side2 ?side3 ?side4 ?side5 ?side6 A11.out).mono ?_); (case side1 => exact zb160); (case side2 => exact OQ.out); (case side3 => exact zb159); (case side4 => exact Bg.out); (case side5 => exact zb158); (case side6 => exact Rh.out); rintro e w15 ⟨rfl, hb⟩; refine ⟨_, rfl, ?_⟩; replace Vo := bq Vo hb; replace HB := az (Xe zb6 hb); (try clear hb); (try clear hb2); (try clear hk); (try clear hi)))
     go_ret
     exact ⟨zb8, zb6⟩
    ·rw [if_neg c12] at H
     have XcV : (Vv == 0) = false := beq_eq_false_iff_ne.mpr c12; have XgG : (Vv != 0) = true := bne_iff_ne.mpr c12; obtain rfl := Option.some.inj H
     go_enter Try.func152, Try.ntmps152
     go_wp2_with (first | ((with_reducible refine XO (N := 3) rfl ?_); refine Y4 ?hg (N := 3) ?hd (cs := #[.slice JL Y1.length JM, .slice JV Yd.length J9, .slice Vi X9.length Vj, .int .i64 Yl, .bool false]) (t := 52) ?hr ?_; (case hd => rfl); (case hg => rfl); (case hr => exact zb22); intro Sv hg w16 hbox hb; have Vo := az (hbox); have Sw := az ((zb148 : w.heap.size ≤ Sv)); have QD := Sw; replace HB := az (Xe zb1 hb); clear hb hbox hg; obtain ⟨Xkw, Xkx, Xky, Xkz, Xk0⟩ := cz5 Vo; obtain ⟨Xk1, Xk2, Xk3, Xk4⟩ := fz4 Vo; have Xk5 := Xf Vo.out 4) | (go_at_call 81; (with_reducible refine (XX.calls a1 1 3 true _ A7.out).mono ?_); rintro e w' ⟨rfl, ⟨nd, rfl⟩⟩) | (go_at_call 81; (with_reducible refine (XX.calls a2 0 4 true _ A9.out).mono ?_); rintro e w' ⟨rfl, ⟨nd, rfl⟩⟩) | ((with_reducible refine Xg (f := 131) rfl ?_); refine Xz (some 22) rfl rfl Try.func131 zb14 rfl #[.agg #[.slice JL Y1.length JM, .slice JV Yd.length J9, .slice Vi X9.length Vj, .int .i64 Yl, .bool false], .int .i64 a2] rfl zb0 ?_; (with_reducible refine (XJ.calls k _ _ Y1 _ _ Yd _ _ X9 Yl false a2 Vv _ ?side1 ?side2 ?side3 ?side4 ?side5 ?side6 A11.out).mono ?_); (case side1 => exact zb160); (case side2 => exact OQ.out); (case side3 => exact zb159); (case side4 => exact Bg.out); (case side5 => exact zb158); (case side6 => exact Rh.out); rintro e w18 ⟨rfl, hb⟩; refine ⟨_, rfl, ?_⟩; replace Vo := bq Vo hb; replace HB := az (Xe zb6 hb); (try clear hb); (try clear hb2); (try clear hk); (try clear hi)))
     go_ret
     exact ⟨zb8, zb6⟩
   ·replace c10 := Bool.eq_false_iff.mpr c10
    subst c10
    have H1 : (some false) = some r := by rw [if_neg (show ¬ (false = true) by decide)] at H; exact H
    clear H; have H := H1; clear H1; obtain rfl := Option.some.inj H
    go_enter Try.func152, Try.ntmps152
    go_wp2_with (first | ((with_reducible refine XO (N := 3) rfl ?_); refine Y4 ?hg (N := 3) ?hd (cs := #[.slice JL Y1.length JM, .slice JV Yd.length J9, .slice Vi X9.length Vj, .int .i64 Yl, .bool false]) (t := 52) ?hr ?_; (case hd => rfl); (case hg => rfl); (case hr => exact zb22); intro Sv hg w19 hbox hb; have Vo := az (hbox); have Sw := az ((zb148 : w.heap.size ≤ Sv)); have QD := Sw; replace HB := az (Xe zb1 hb); clear hb hbox hg; obtain ⟨X0f, X0g, X0h, X0i, X0j⟩ := cz5 Vo; obtain ⟨X0k, X0l, X0m, X0n⟩ := fz4 Vo; have X0o := Xf Vo.out 4) | (go_at_call 81; (with_reducible refine (XX.calls a1 1 3 true _ A7.out).mono ?_); rintro e w' ⟨rfl, ⟨nd, rfl⟩⟩) | (go_at_call 81; (with_reducible refine (XX.calls a2 0 4 false _ A9.out).mono ?_); rintro e w' ⟨rfl, ⟨nd, rfl⟩⟩))
    go_ret
    exact ⟨zb8, zb6⟩
  ·replace c8 := Bool.eq_false_iff.mpr c8
   subst c8
   have H1 : (some false) = some r := by rw [if_neg (show ¬ (false = true) by decide)] at H; exact H
   clear H; have H := H1; clear H1; obtain rfl := Option.some.inj H
   go_enter Try.func152, Try.ntmps152
   go_wp2_with (first | ((with_reducible refine XO (N := 3) rfl ?_); refine Y4 ?hg (N := 3) ?hd (cs := #[.slice JL Y1.length JM, .slice JV Yd.length J9, .slice Vi X9.length Vj, .int .i64 Yl, .bool false]) (t := 52) ?hr ?_; (case hd => rfl); (case hg => rfl); (case hr => exact zb22); intro Sv hg w21 hbox hb; have Vo := az (hbox); have Sw := az ((zb148 : w.heap.size ≤ Sv)); have QD := Sw; replace HB := az (Xe zb1 hb); clear hb hbox hg; obtain ⟨Xjp, Xjq, Xjr, Xjs, Xjt⟩ := cz5 Vo; obtain ⟨Xju, Xjv, Xjw, Xjx⟩ := fz4 Vo; have Xjy := Xf Vo.out 4) | (go_at_call 81; (with_reducible refine (XX.calls a1 1 3 false _ A7.out).mono ?_); rintro e w' ⟨rfl, ⟨nd, rfl⟩⟩))
   go_ret
   exact ⟨zb8, zb6⟩
def YG.l0 : Nat → List (S41) → Int → Int → Option (Bool)
 | 0, _, _, _ => none
 | k + 1, x0, x2, x7 => if x7 > 0 then (if 0 ≤ (wrap64 (x7 - 1)) then (if (wrap64 (x7 - 1)) < (x0.length : Int) then (if ((Xa x0 (wrap64 (x7 - 1))).f0) = 2 then (if ((Xa x0 (wrap64 (x7 - 1))).f2) = x2 then (if ((Xa x0 (wrap64 (x7 - 1))).f5) > 0 then (some true) else (YG.l0 k x0 x2 ((Xa x0 (wrap64 (x7 - 1))).f6))) else (YG.l0 k x0 x2 ((Xa x0 (wrap64 (x7 - 1))).f6))) else (YG.l0 k x0 x2 ((Xa x0 (wrap64 (x7 - 1))).f6))) else (none)) else (none)) else (some false)
def YG.f (k : Nat) (l0 : List (S41)) (a1 : Int) (a2 : Int) : Option (Bool) := (Xn.f k l0 a1).bind fun Eh => (YG.l0 k l0 a2 Eh)
set_option maxHeartbeats 8000000 in
set_option maxRecDepth 100000 in
theorem YG.calls (k : Nat) (A0 : Option Addr) (c0 : Nat) (l0 : List (S41)) (a1 : Int) (a2 : Int) (r : Bool) (w : World) (hr0 : Kd.C k41 w A0 l0.length l0) (hc0 : l0.length ≤ c0) (h : YG.f k l0 a1 a2 = some r) :
  Calls Try.prog 154 #[.slice A0 l0.length c0, .int .i64 a1, .int .i64 a2] w fun e w' => e = .returned (.bool r) ∧ Below w.heap.size w w' := by
 have hu41 := Try.underlying41; have HR0 := az hr0; have HC0 := az hc0; clear hr0 hc0; have HB := az (Below.refl w.heap.size w); have H : ((Xn.f k l0 a1).bind fun Eh => (YG.l0 k l0 a2 Eh)) = some r := h; clear h; replace H := Option.bind_eq_some_iff.mp H; obtain ⟨Eh, A40, H⟩ := H; replace H : (YG.l0 k l0 a2 Eh) = some r := H; have A4 := az A40; clear A40; have H' := az H; clear H
 go_enter Try.func154, Try.ntmps154
 go_wp2_with (first | ((with_reducible refine Xg (f := 84) rfl ?_); refine Xz (some 11) rfl rfl Try.func84 zb14 rfl #[.slice A0 l0.length c0, .int .i64 a1] rfl zb0 ?_; (with_reducible refine (Xn.calls k _ _ l0 a1 Eh _ ?side1 ?side2 A4.out).mono ?_); (case side1 => exact zb17); (case side2 => exact HC0.out); rintro e w' ⟨rfl, ⟨nd, rfl⟩⟩; refine ⟨_, rfl, ?_⟩))
 go_loopg [7] k (fun kq v7 w' => ∃ (WB : Int), v7 = .int .i64 WB ∧ Aside0 (YG.l0 kq l0 a2 WB = some r) ∧ Aside0 (kq ≤ k) ∧ Aside0 (Below w.heap.size w w'))
 case atStart => exact ⟨(Eh), zb12, H', ⟨Nat.le_refl _⟩, ⟨zb1⟩⟩
 case round =>
  clear H';(try clear c1);(try clear p2)
  obtain ⟨WB, rfl, HA, HK1, HB⟩ := hrel
  cases gk with
  | zero => exact absurd HA.out (by simp [YG.l0])
  | succ k1 =>
   have H := HA.out; clear HA; simp only [YG.l0] at H
   by_cases c5 : WB > 0
   ·rw [if_pos c5] at H
    have c5b0 : decide (0 < WB) = true := decide_eq_true c5; clear c5
    obtain ⟨ji6, hji6⟩ : ∃ j_ : Int, (wrap64 (WB - 1)) = j_ := ⟨_, rfl⟩
    replace H : (if 0 ≤ (ji6) then (if (ji6) < (l0.length : Int) then (if ((Xa l0 (ji6)).f0) = 2 then (if ((Xa l0 (ji6)).f2) = a2 then (if ((Xa l0 (ji6)).f5) > 0 then (some true) else (YG.l0 k1 l0 a2 ((Xa l0 (ji6)).f6))) else (YG.l0 k1 l0 a2 ((Xa l0 (ji6)).f6))) else (YG.l0 k1 l0 a2 ((Xa l0 (ji6)).f6))) else (none)) else (none)) = some r := by first | (rw [hji6] at H; exact H) | (simp only [hji6] at H ⊢; exact H)
    have hji6w : (IntKind.i64.wrap (WB - 1)) = ji6 := (XB _).trans hji6
    by_cases c7 : 0 ≤ (ji6)
    ·rw [if_pos c7] at H
     have c7b0 : decide (0 ≤ (ji6)) = true := decide_eq_true c7; clear c7
     by_cases c8 : (ji6) < (l0.length : Int)
     ·rw [if_pos c8] at H
      have c8b0 : decide ((ji6) < (l0.length : Int)) = true := decide_eq_true c8; clear c8
      by_cases c9 : ((Xa l0 (ji6)).f0) = 2
      ·rw [if_pos c9] at H
       have c9b0 : (((Xa l0 (ji6)).f0) == 2) = true := beq_iff_eq.mpr c9; have c9b1 : (((Xa l0 (ji6)).f0) != 2) = false := bne_eq_false_iff_eq.mpr c9; clear c9
       by_cases c10 : ((Xa l0 (ji6)).f2) = a2
       ·rw [if_pos c10] at H
        have Fq : (((Xa l0 (ji6)).f2) == a2) = true := beq_iff_eq.mpr c10; have Wy : (((Xa l0 (ji6)).f2) != a2) = false := bne_eq_false_iff_eq.mpr c10; clear c10
        by_cases c11 : ((Xa l0 (ji6)).f5) > 0
        ·rw [if_pos c11] at H
         have Xgq : decide (0 < ((Xa l0 (ji6)).f5)) = true := decide_eq_true c11; clear c11; obtain rfl := Option.some.inj H; have M0 : 0 ≤ ((ji6) : Int) := of_decide_eq_true zb7; have M3 : (ji6) < (l0.length : Int) := of_decide_eq_true zb7; obtain ⟨LZ, Ei, DR, DT, DU, DV, DW, DX, DY, DZ⟩ := XV HR0.out (ji6) M0 M3
         cases Ei
         replace DR := cb HB DR; replace DT := cb HB DT; replace DU := cb HB DU; replace DV := cb HB DV; replace DW := cb HB DW; replace DX := cb HB DX; replace DY := cb HB DY; replace DZ := cb HB DZ; replace M0 := eq_true M0; replace M3 := eq_true M3
         go_wp2_with (first | ((with_reducible refine XO (N := 8) rfl ?_); refine Y4 ?hg (N := 8) ?hd (cs := #[.int .i64 0, .int .i64 0, .int .i64 0, .int .i64 0, .int .i64 0, .int .i64 0, .int .i64 0, .int .i64 0]) (t := 41) ?hr ?_; (case hd => rfl); (case hg => rfl); (case hr => exact zb22); intro Ki hg w12 hbox hb; have U2 := az (hbox); have Nq := az ((zb148 : w.heap.size ≤ Ki)); have XbD := Nq; replace HB := az (Xe zb1 hb); clear hb hbox hg; obtain ⟨XcE, XcF, XcG, XcH, XcI, XcJ, XcK, XcL⟩ := cz8 U2; obtain ⟨XcM, XcN, XcO, XcP, XcQ, XcR, XcS⟩ := fz7 U2; have XcT := Xf U2.out 7))
         go_ret
         exact ⟨by first | rfl | (simp [YN, YO] <;> rfl) | (simp only [← hji6]; first | rfl | (simp [YN, YO] <;> rfl)) | (simp [*, YN, YO] <;> rfl), zb6⟩
        ·rw [if_neg c11] at H
         have Xgq : decide (0 < ((Xa l0 (ji6)).f5)) = false := decide_eq_false c11; clear c11; have H' := az H; clear H; have M0 : 0 ≤ ((ji6) : Int) := of_decide_eq_true zb7; have M3 : (ji6) < (l0.length : Int) := of_decide_eq_true zb7; obtain ⟨LZ, Ei, DR, DT, DU, DV, DW, DX, DY, DZ⟩ := XV HR0.out (ji6) M0 M3
         cases Ei
         replace DR := cb HB DR; replace DT := cb HB DT; replace DU := cb HB DU; replace DV := cb HB DV; replace DW := cb HB DW; replace DX := cb HB DX; replace DY := cb HB DY; replace DZ := cb HB DZ; replace M0 := eq_true M0; replace M3 := eq_true M3
         go_wp2_with (first | ((with_reducible refine XO (N := 8) rfl ?_); refine Y4 ?hg (N := 8) ?hd (cs := #[.int .i64 0, .int .i64 0, .int .i64 0, .int .i64 0, .int .i64 0, .int .i64 0, .int .i64 0, .int .i64 0]) (t := 41) ?hr ?_; (case hd => rfl); (case hg => rfl); (case hr => exact zb22); intro Ki hg w14 hbox hb; have U2 := az (hbox); have Nq := az ((zb148 : w.heap.size ≤ Ki)); have XbD := Nq; replace HB := az (Xe zb1 hb); clear hb hbox hg; obtain ⟨X0p, X0q, X0r, X0s, X0t, X0u, X0v, X0w⟩ := cz8 U2; obtain ⟨X0x, X0y, X0z, X00, X01, X02, X03, X04⟩ := fz8 U2; have XgH : 0 ≤ ((ji6) : Int) := of_decide_eq_true zb7; have XgI : (ji6) < (l0.length : Int) := of_decide_eq_true zb7; obtain ⟨XnZ, Xt2, WC, KE, KF, KG, KH, KI, KJ, KO⟩ := XV HR0.out (ji6) XgH XgI; obtain rfl : LZ = XnZ := (by injection Xt2); have Sy := nq WC Nq; replace WC := cb HB WC; replace KE := cb HB KE; replace KF := cb HB KF; replace KG := cb HB KG; replace KH := cb HB KH; replace KI := cb HB KI; replace KJ := cb HB KJ; replace KO := cb HB KO; replace WC := c8 (Xa l0 (ji6)) WC (na Sy); replace KE := c8 (Xa l0 (ji6)) KE (na Sy); replace KF := c8 (Xa l0 (ji6)) KF (na Sy); replace KG := c8 (Xa l0 (ji6)) KG (na Sy); replace KH := c8 (Xa l0 (ji6)) KH (na Sy); replace KI := c8 (Xa l0 (ji6)) KI (na Sy); replace KJ := c8 (Xa l0 (ji6)) KJ (na Sy); replace KO := c8 (Xa l0 (ji6)) KO (na Sy); clear Sy; replace XgH := eq_true XgH; replace XgI := eq_true XgI))
         go_roundg k1
         case measure => have := HK1.out; omega
         case rel => exact ⟨((Xa l0 (ji6)).f6), zb83, H', ⟨zb54⟩, ⟨zb6⟩⟩
       ·rw [if_neg c10] at H
        have Fq : (((Xa l0 (ji6)).f2) == a2) = false := beq_eq_false_iff_ne.mpr c10; have Wy : (((Xa l0 (ji6)).f2) != a2) = true := bne_iff_ne.mpr c10; have H' := az H; clear H; have M0 : 0 ≤ ((ji6) : Int) := of_decide_eq_true zb7; have M3 : (ji6) < (l0.length : Int) := of_decide_eq_true zb7; obtain ⟨LZ, Ei, DR, DT, DU, DV, DW, DX, DY, DZ⟩ := XV HR0.out (ji6) M0 M3
        cases Ei
        replace DR := cb HB DR; replace DT := cb HB DT; replace DU := cb HB DU; replace DV := cb HB DV; replace DW := cb HB DW; replace DX := cb HB DX; replace DY := cb HB DY; replace DZ := cb HB DZ; replace M0 := eq_true M0; replace M3 := eq_true M3
        go_wp2_with (first | ((with_reducible refine XO (N := 8) rfl ?_); refine Y4 ?hg (N := 8) ?hd (cs := #[.int .i64 0, .int .i64 0, .int .i64 0, .int .i64 0, .int .i64 0, .int .i64 0, .int .i64 0, .int .i64 0]) (t := 41) ?hr ?_; (case hd => rfl); (case hg => rfl); (case hr => exact zb22); intro Ki hg w16 hbox hb; have U2 := az (hbox); have Nq := az ((zb148 : w.heap.size ≤ Ki)); have XbD := Nq; replace HB := az (Xe zb1 hb); clear hb hbox hg; obtain ⟨Xkw, Xkx, Xky, Xkz, Xk0, X05, X06, X07⟩ := cz8 U2; obtain ⟨Xk1, Xk2, Xk3, Xk4, Xk5, X08, X09, X0A⟩ := fz8 U2; have XgJ : 0 ≤ ((ji6) : Int) := of_decide_eq_true zb7; have XgK : (ji6) < (l0.length : Int) := of_decide_eq_true zb7; obtain ⟨Xoa, Xt3, WE, KP, KQ, KS, KT, KU, KV, KW⟩ := XV HR0.out (ji6) XgJ XgK; obtain rfl : LZ = Xoa := (by injection Xt3); have Sz := nq WE Nq; replace WE := cb HB WE; replace KP := cb HB KP; replace KQ := cb HB KQ; replace KS := cb HB KS; replace KT := cb HB KT; replace KU := cb HB KU; replace KV := cb HB KV; replace KW := cb HB KW; replace WE := c8 (Xa l0 (ji6)) WE (na Sz); replace KP := c8 (Xa l0 (ji6)) KP (na Sz); replace KQ := c8 (Xa l0 (ji6)) KQ (na Sz); replace KS := c8 (Xa l0 (ji6)) KS (na Sz); replace KT := c8 (Xa l0 (ji6)) KT (na Sz); replace KU := c8 (Xa l0 (ji6)) KU (na Sz); replace KV := c8 (Xa l0 (ji6)) KV (na Sz); replace KW := c8 (Xa l0 (ji6)) KW (na Sz); clear Sz; replace XgJ := eq_true XgJ; replace XgK := eq_true XgK))
        go_roundg k1
        case measure => have := HK1.out; omega
        case rel => exact ⟨((Xa l0 (ji6)).f6), zb83, H', ⟨zb54⟩, ⟨zb6⟩⟩
      ·rw [if_neg c9] at H
       have c9b0 : (((Xa l0 (ji6)).f0) == 2) = false := beq_eq_false_iff_ne.mpr c9; have c9b1 : (((Xa l0 (ji6)).f0) != 2) = true := bne_iff_ne.mpr c9; have H' := az H; clear H; have M0 : 0 ≤ ((ji6) : Int) := of_decide_eq_true zb7; have M3 : (ji6) < (l0.length : Int) := of_decide_eq_true zb7; obtain ⟨LZ, Ei, DR, DT, DU, DV, DW, DX, DY, DZ⟩ := XV HR0.out (ji6) M0 M3
       cases Ei
       replace DR := cb HB DR; replace DT := cb HB DT; replace DU := cb HB DU; replace DV := cb HB DV; replace DW := cb HB DW; replace DX := cb HB DX; replace DY := cb HB DY; replace DZ := cb HB DZ; replace M0 := eq_true M0; replace M3 := eq_true M3
       go_wp2_with (first | ((with_reducible refine XO (N := 8) rfl ?_); refine Y4 ?hg (N := 8) ?hd (cs := #[.int .i64 0, .int .i64 0, .int .i64 0, .int .i64 0, .int .i64 0, .int .i64 0, .int .i64 0, .int .i64 0]) (t := 41) ?hr ?_; (case hd => rfl); (case hg => rfl); (case hr => exact zb22); intro Ki hg w18 hbox hb; have U2 := az (hbox); have Nq := az ((zb148 : w.heap.size ≤ Ki)); have XbD := Nq; replace HB := az (Xe zb1 hb); clear hb hbox hg; obtain ⟨X0B, X0C, X0D, X0E, X0F, X0G, X0H, X0I⟩ := cz8 U2; obtain ⟨X0J, X0K, X0L, X0M, X0N, X0O, X0P, X0Q⟩ := fz8 U2; have XgL : 0 ≤ ((ji6) : Int) := of_decide_eq_true zb7; have XgM : (ji6) < (l0.length : Int) := of_decide_eq_true zb7; obtain ⟨Xob, Xt4, WG, KX, KY, KZ, La, Lb, Lc, Ld⟩ := XV HR0.out (ji6) XgL XgM; obtain rfl : LZ = Xob := (by injection Xt4); have S9 := nq WG Nq; replace WG := cb HB WG; replace KX := cb HB KX; replace KY := cb HB KY; replace KZ := cb HB KZ; replace La := cb HB La; replace Lb := cb HB Lb; replace Lc := cb HB Lc; replace Ld := cb HB Ld; replace WG := c8 (Xa l0 (ji6)) WG (na S9); replace KX := c8 (Xa l0 (ji6)) KX (na S9); replace KY := c8 (Xa l0 (ji6)) KY (na S9); replace KZ := c8 (Xa l0 (ji6)) KZ (na S9); replace La := c8 (Xa l0 (ji6)) La (na S9); replace Lb := c8 (Xa l0 (ji6)) Lb (na S9); replace Lc := c8 (Xa l0 (ji6)) Lc (na S9); replace Ld := c8 (Xa l0 (ji6)) Ld (na S9); clear S9; replace XgL := eq_true XgL; replace XgM := eq_true XgM))
       go_roundg k1
       case measure => have := HK1.out; omega
       case rel => exact ⟨((Xa l0 (ji6)).f6), zb83, H', ⟨zb54⟩, ⟨zb6⟩⟩
     ·rw [if_neg c8] at H
      exact absurd H (by simp)
    ·rw [if_neg c7] at H
     exact absurd H (by simp)
   ·rw [if_neg c5] at H
    have c5b0 : decide (0 < WB) = false := decide_eq_false c5; clear c5; obtain rfl := Option.some.inj H
    go_wp2
    go_ret
    exact ⟨zb8, zb1⟩
end Go.Proofs.Ytcefiblpnegepaa.Pr
