import Derived.Test.YtcefiblpnegepaaQBByq
import Derived.Test.YtcefiblpnegepaaQBSq
import Derived.Test.YtcefiblpnegepaaQBSx
import Derived.Test.YtcefiblpnegepaaQBPrNeed
namespace Go.Proofs.Ytcefiblpnegepaa.Pr
open Go.RowKit Go.PW Go.PL Go.PM
attribute [local go_sem] Y3 Y4 YV YW Yk Yl Y5 Y6
set_option linter.unusedVariables false
set_option linter.unusedSimpArgs false
def YK.l0 : Nat → List (S41) → Int → Int → Option (Bool)
 | 0, _, _, _ => none
 | k + 1, x0, x2, x7 => if x7 > 0 then (if 0 ≤ (wrap64 (x7 - 1)) then (if (wrap64 (x7 - 1)) < (x0.length : Int) then (if ((Xa x0 (wrap64 (x7 - 1))).f2) = x2 then (some true) else (YK.l0 k x0 x2 ((Xa x0 (wrap64 (x7 - 1))).f6))) else (none)) else (none)) else (some false)
def YK.f (k : Nat) (l0 : List (S41)) (a1 : Int) (a2 : Int) : Option (Bool) := (Xu.f k l0 a1).bind fun Bj => (YK.l0 k l0 a2 Bj)
set_option maxHeartbeats 8000000 in
set_option maxRecDepth 100000 in
theorem YK.calls (k : Nat) (A0 : Option Addr) (c0 : Nat) (l0 : List (S41)) (a1 : Int) (a2 : Int) (r : Bool) (w : World) (hr0 : Kd.C k41 w A0 l0.length l0) (hc0 : l0.length ≤ c0) (h : YK.f k l0 a1 a2 = some r) :
  Calls Try.prog 108 #[.slice A0 l0.length c0, .int .i64 a1, .int .i64 a2] w fun e w' => e = .returned (.bool r) ∧ Vk w w' := by
 have HR0 := az hr0; have HC0 := az hc0; clear hr0 hc0; have H : ((Xu.f k l0 a1).bind fun Bj => (YK.l0 k l0 a2 Bj)) = some r := h; clear h; replace H := Option.bind_eq_some_iff.mp H; obtain ⟨Bj, A40, H⟩ := H; replace H : (YK.l0 k l0 a2 Bj) = some r := H; have A4 := az A40; clear A40; have H' := az H; clear H
 go_enter Try.func108, Try.ntmps108
 go_wp2_with (first | ((with_reducible refine Xg (f := 84) rfl ?_); refine X6 (some 10) rfl rfl Try.func84 zb13 rfl #[.slice A0 l0.length c0, .int .i64 a1] rfl zb0 ?_; (with_reducible refine (Xu.calls k _ _ l0 a1 Bj _ ?side1 ?side2 A4.out).mono ?_); (case side1 => exact zb23); (case side2 => exact HC0.out); rintro e w' ⟨rfl, ⟨nd, rfl⟩⟩; refine ⟨_, rfl, ?_⟩))
 go_loopg [7] k (fun kq v7 w' => ∃ (FE : Int), v7 = .int .i64 FE ∧ Aside0 (YK.l0 kq l0 a2 FE = some r) ∧ Aside0 (kq ≤ k) ∧ Vk w w')
 case atStart => exact ⟨(Bj), zb12, H', ⟨Nat.le_refl _⟩, zb24⟩
 case round =>
  clear H';(try clear c1);(try clear p2)
  obtain ⟨FE, rfl, HA, HK1, ⟨m1, rfl⟩⟩ := hrel
  cases gk with
  | zero => exact absurd HA.out (by simp [YK.l0])
  | succ k1 =>
   have H := HA.out; clear HA; simp only [YK.l0] at H
   by_cases c5 : FE > 0
   ·rw [if_pos c5] at H
    have c5b0 : decide (0 < FE) = true := decide_eq_true c5; clear c5
    obtain ⟨ji6, hji6⟩ : ∃ j_ : Int, (wrap64 (FE - 1)) = j_ := ⟨_, rfl⟩
    replace H : (if 0 ≤ (ji6) then (if (ji6) < (l0.length : Int) then (if ((Xa l0 (ji6)).f2) = a2 then (some true) else (YK.l0 k1 l0 a2 ((Xa l0 (ji6)).f6))) else (none)) else (none)) = some r := by first | (rw [hji6] at H; exact H) | (simp only [hji6] at H ⊢; exact H)
    have hji6w : (IntKind.i64.wrap (FE - 1)) = ji6 := (XG _).trans hji6
    by_cases c7 : 0 ≤ (ji6)
    ·rw [if_pos c7] at H
     have c7b0 : decide (0 ≤ (ji6)) = true := decide_eq_true c7; clear c7
     by_cases c8 : (ji6) < (l0.length : Int)
     ·rw [if_pos c8] at H
      have c8b0 : decide ((ji6) < (l0.length : Int)) = true := decide_eq_true c8; clear c8
      by_cases c9 : ((Xa l0 (ji6)).f2) = a2
      ·rw [if_pos c9] at H
       have c9b0 : (((Xa l0 (ji6)).f2) == a2) = true := beq_iff_eq.mpr c9; have c9b1 : (((Xa l0 (ji6)).f2) != a2) = false := bne_eq_false_iff_eq.mpr c9; clear c9; obtain rfl := Option.some.inj H; have Bl : 0 ≤ ((ji6) : Int) := of_decide_eq_true zb9; have Bn : (ji6) < (l0.length : Int) := of_decide_eq_true zb9; obtain ⟨XfW, XfX, XfY, XfZ, Xga, Xgb, Xgc, Xgd, Xge, Xgf⟩ := YN HR0.out (ji6) Bl Bn
       cases XfX
       replace Bl := eq_true Bl; replace Bn := eq_true Bn
       go_wp2
       go_ret
       exact ⟨zb86, zb24⟩
      ·rw [if_neg c9] at H
       have c9b0 : (((Xa l0 (ji6)).f2) == a2) = false := beq_eq_false_iff_ne.mpr c9; have c9b1 : (((Xa l0 (ji6)).f2) != a2) = true := bne_iff_ne.mpr c9; have H' := az H; clear H; have Bl : 0 ≤ ((ji6) : Int) := of_decide_eq_true zb9; have Bn : (ji6) < (l0.length : Int) := of_decide_eq_true zb9; obtain ⟨XfW, XfX, XfY, XfZ, Xga, Xgb, Xgc, Xgd, Xge, Xgf⟩ := YN HR0.out (ji6) Bl Bn
       cases XfX
       replace Bl := eq_true Bl; replace Bn := eq_true Bn; have Xgg : 0 ≤ ((ji6) : Int) := of_decide_eq_true zb9; have Xgh : (ji6) < (l0.length : Int) := of_decide_eq_true zb9; obtain ⟨Xnr, XsN, XsO, XsP, XsQ, XsR, XsS, XsT, XsU, XsV⟩ := YN HR0.out (ji6) Xgg Xgh
       obtain rfl : XfW = Xnr := (by injection XsN)
       replace Xgg := eq_true Xgg; replace Xgh := eq_true Xgh
       go_wp2
       go_roundg k1
       case measure => have := HK1.out; omega
       case rel => exact ⟨((Xa l0 (ji6)).f6), zb86, H', ⟨zb61⟩, zb24⟩
     ·rw [if_neg c8] at H
      exact absurd H (by simp)
    ·rw [if_neg c7] at H
     exact absurd H (by simp)
   ·rw [if_neg c5] at H
    have c5b0 : decide (0 < FE) = false := decide_eq_false c5; clear c5; obtain rfl := Option.some.inj H
    go_wp2
    go_ret
    exact ⟨zb12, zb24⟩
def XQ.l0 : Nat → Int → Int → List (S25) → List (S25) → List (S41) → Int → Bool → Option (Int)
 | 0, _, _, _, _, _, _, _ => none
 | k + 1, x1, x5, Xgi, Xgj, Xap, Xgk, Xgl => if x5 ≤ 3 then ((YK.f k Xap x5 x1).bind fun XcU => (if XcU = true then (some x5) else (XQ.l0 k x1 (wrap64 (x5 + 1)) Xgi Xgj Xap Xgk Xgl))) else (some 0)
def XQ.f (k : Nat) (Y2 : List (S25)) (Yi : List (S25)) (XE : List (S41)) (Yr : Int) (Y7 : Bool) (a1 : Int) : Option (Int) := XQ.l0 k a1 1 Y2 Yi XE Yr Y7
set_option maxHeartbeats 8000000 in
set_option maxRecDepth 100000 in
theorem XQ.calls (k : Nat) (JJ : Option Addr) (JK : Nat) (Y2 : List (S25)) (JS : Option Addr) (J6 : Nat) (Yi : List (S25)) (Vf : Option Addr) (Vg : Nat) (XE : List (S41)) (Yr : Int) (Y7 : Bool) (a1 : Int) (r : Int) (w : World) (hr0_0 : Kd.C k25 w JJ Y2.length Y2) (hc0_0 : Y2.length ≤ JK) (hr0_1 : Kd.C k25 w JS Yi.length Yi) (hc0_1 : Yi.length ≤ J6) (hr0_2 : Kd.C k41 w Vf XE.length XE) (hc0_2 : XE.length ≤ Vg) (h : XQ.f k Y2 Yi XE Yr Y7 a1 = some r) :
  Calls Try.prog 131 #[.agg #[.slice JJ Y2.length JK, .slice JS Yi.length J6, .slice Vf XE.length Vg, .int .i64 Yr, .bool Y7], .int .i64 a1] w fun e w' => e = .returned (.int .i64 r) ∧ Below w.heap.size w w' := by
 have hu52 := Try.underlying52; have XbP := az hr0_0; have Ol := az hc0_0; clear hr0_0 hc0_0; have XbO := az hr0_1; have Cm := az hc0_1; clear hr0_1 hc0_1; have TA := az hr0_2; have TD := az hc0_2; clear hr0_2 hc0_2; have HB := az (Below.refl w.heap.size w); have H : (XQ.l0 k a1 1 Y2 Yi XE Yr Y7) = some r := h; clear h; have H' := az H; clear H
 go_enter Try.func131, Try.ntmps131
 go_wp2_with (first | ((with_reducible refine XZ (N := 2) rfl ?_); refine YL ?hg (N := 2) ?hd (cs := #[.slice JJ Y2.length JK, .slice JS Yi.length J6, .slice Vf XE.length Vg, .int .i64 Yr, .bool Y7]) (t := 52) ?hr ?_; (case hd => rfl); (case hg => rfl); (case hr => exact zb21); intro Xgm hg w3 hbox hb; have Px := az (hbox); have Xns := az ((zb150 : w.heap.size ≤ Xgm)); have GE1174 := Xns; replace HB := az (Xe zb1 hb); clear hb hbox hg))
 go_loopg [5] k (fun kq v5 w' => ∃ (Yh : Int), v5 = .int .i64 Yh ∧ Aside0 (XQ.l0 kq a1 Yh Y2 Yi XE Yr Y7 = some r) ∧ Aside0 (kq ≤ k) ∧ Aside0 (w'.heap[Xgm]? = some (.cells #[(.slice JJ Y2.length JK), (.slice JS Yi.length J6), (.slice Vf XE.length Vg), .int .i64 Yr, .bool Y7] 52 (0, 0))) ∧ Aside0 (Below w.heap.size w w'))
 case atStart => exact ⟨(1), zb12, H', ⟨Nat.le_refl _⟩, ⟨by (with_reducible repeat (first | apply bn | apply bd | apply ba)); exact Px.out⟩, ⟨zb6⟩⟩
 case round =>
  clear H';(try clear c1);(try clear p2)
  obtain ⟨Yh, rfl, HA, HK1, Px, HB⟩ := hrel
  cases gk with
  | zero => exact absurd HA.out (by simp [XQ.l0])
  | succ k1 =>
   have H := HA.out; clear HA; simp only [XQ.l0] at H
   by_cases c4 : Yh ≤ 3
   ·rw [if_pos c4] at H
    have c4b0 : decide (Yh ≤ 3) = true := decide_eq_true c4; clear c4; replace H := Option.bind_eq_some_iff.mp H; obtain ⟨XcU, A50, H⟩ := H; replace H : (if XcU = true then (some Yh) else (XQ.l0 k1 a1 (wrap64 (Yh + 1)) Y2 Yi XE Yr Y7)) = some r := H; have A5 := az A50; clear A50
    by_cases c6 : XcU = true
    ·subst c6
     have H1 : (some Yh) = some r := by rw [if_pos rfl] at H; exact H
     clear H; have H := H1; clear H1; obtain rfl := Option.some.inj H; obtain ⟨Xe8, Xe9, XeA, XlW, XlX⟩ := cz5 Px; obtain ⟨XeB, XeC, XeD, XlY, XlZ⟩ := fz5 Px
     go_wp2_with (first | ((with_reducible refine Xg (f := 108) rfl ?_); refine X6 (some 14) rfl rfl Try.func108 zb13 rfl #[.slice Vf XE.length Vg, .int .i64 Yh, .int .i64 a1] rfl zb0 ?_; (with_reducible refine (YK.calls k1 _ _ XE Yh a1 true _ ?side1 ?side2 A5.out).mono ?_); (case side1 => exact zb72); (case side2 => exact TD.out); rintro e w' ⟨rfl, ⟨nd, rfl⟩⟩; refine ⟨_, rfl, ?_⟩))
     go_ret
     exact ⟨zb11, zb6⟩
    ·replace c6 := Bool.eq_false_iff.mpr c6
     subst c6
     have H1 : (XQ.l0 k1 a1 (wrap64 (Yh + 1)) Y2 Yi XE Yr Y7) = some r := by rw [if_neg (show ¬ (false = true) by decide)] at H; exact H
     clear H; have H := H1; clear H1; have H' := az H; clear H; obtain ⟨XfQ, XfR, XfS, hcz8_3, hcz8_4⟩ := cz5 Px; obtain ⟨XfT, XfU, XfV, hfz8_3, hfz8_4⟩ := fz5 Px
     go_wp2_with (first | ((with_reducible refine Xg (f := 108) rfl ?_); refine X6 (some 14) rfl rfl Try.func108 zb13 rfl #[.slice Vf XE.length Vg, .int .i64 Yh, .int .i64 a1] rfl zb0 ?_; (with_reducible refine (YK.calls k1 _ _ XE Yh a1 false _ ?side1 ?side2 A5.out).mono ?_); (case side1 => exact zb72); (case side2 => exact TD.out); rintro e w' ⟨rfl, ⟨nd, rfl⟩⟩; refine ⟨_, rfl, ?_⟩))
     go_roundg k1
     case measure => have := HK1.out; omega
     case rel => exact ⟨(wrap64 (Yh + 1)), zb12, H', ⟨zb61⟩, ⟨by (with_reducible repeat (first | apply bn | apply bd | apply ba)); exact Px.out⟩, ⟨zb6⟩⟩
   ·rw [if_neg c4] at H
    have c4b0 : decide (Yh ≤ 3) = false := decide_eq_false c4; clear c4; obtain rfl := Option.some.inj H
    go_wp2
    go_ret
    exact ⟨zb11, zb6⟩
def Vb.f (k : Nat) (Y2 : List (S25)) (Yi : List (S25)) (XE : List (S41)) (Yr : Int) (Y7 : Bool) (a1 : Int) (a2 : Int) : Option (Bool) := if Y7 = true then (some false) else ((Ya.f a1 1 3).bind fun TR => (if TR = true then ((Ya.f a2 0 4).bind fun S9 => (if S9 = true then ((XQ.f k Y2 Yi XE Yr Y7 a2).bind fun Vu => (if Vu = 0 then (some true) else (some (Vu == a1)))) else (some false))) else (some false)))
set_option maxHeartbeats 8000000 in
set_option maxRecDepth 100000 in
theorem Vb.calls (k : Nat) (JJ : Option Addr) (JK : Nat) (Y2 : List (S25)) (JS : Option Addr) (J6 : Nat) (Yi : List (S25)) (Vf : Option Addr) (Vg : Nat) (XE : List (S41)) (Yr : Int) (Y7 : Bool) (a1 : Int) (a2 : Int) (r : Bool) (w : World) (hr0_0 : Kd.C k25 w JJ Y2.length Y2) (hc0_0 : Y2.length ≤ JK) (hr0_1 : Kd.C k25 w JS Yi.length Yi) (hc0_1 : Yi.length ≤ J6) (hr0_2 : Kd.C k41 w Vf XE.length XE) (hc0_2 : XE.length ≤ Vg) (h : Vb.f k Y2 Yi XE Yr Y7 a1 a2 = some r) :
  Calls Try.prog 152 #[.agg #[.slice JJ Y2.length JK, .slice JS Yi.length J6, .slice Vf XE.length Vg, .int .i64 Yr, .bool Y7], .int .i64 a1, .int .i64 a2] w fun e w' => e = .returned (.bool r) ∧ Below w.heap.size w w' := by
 have hu52 := Try.underlying52; have XbP := az hr0_0; have Ol := az hc0_0; clear hr0_0 hc0_0; have XbO := az hr0_1; have Cm := az hc0_1; clear hr0_1 hc0_1; have TA := az hr0_2; have TD := az hc0_2; clear hr0_2 hc0_2; have HB := az (Below.refl w.heap.size w); have H : (if Y7 = true then (some false) else ((Ya.f a1 1 3).bind fun TR => (if TR = true then ((Ya.f a2 0 4).bind fun S9 => (if S9 = true then ((XQ.f k Y2 Yi XE Yr Y7 a2).bind fun Vu => (if Vu = 0 then (some true) else (some (Vu == a1)))) else (some false))) else (some false)))) = some r := h; clear h
 by_cases c4 : Y7 = true
 ·subst c4
  have H1 : (some false) = some r := by rw [if_pos rfl] at H; exact H
  clear H; have H := H1; clear H1; obtain rfl := Option.some.inj H
  go_enter Try.func152, Try.ntmps152
  go_wp2_with (first | ((with_reducible refine XZ (N := 3) rfl ?_); refine YL ?hg (N := 3) ?hd (cs := #[.slice JJ Y2.length JK, .slice JS Yi.length J6, .slice Vf XE.length Vg, .int .i64 Yr, .bool true]) (t := 52) ?hr ?_; (case hd => rfl); (case hg => rfl); (case hr => exact zb21); intro Sb hg w5 hbox hb; have Vj := az (hbox); have Sc := az ((zb150 : w.heap.size ≤ Sb)); have Qa := Sc; replace HB := az (Xe zb1 hb); clear hb hbox hg; obtain ⟨Ci, Cj, XaN, XlS, XlT⟩ := cz5 Vj; obtain ⟨XaO, Ck, XaP, XlU⟩ := fz4 Vj; have XlV := Xf Vj.out 4))
  go_ret
  exact ⟨zb11, zb6⟩
 ·replace c4 := Bool.eq_false_iff.mpr c4
  subst c4
  have H1 : ((Ya.f a1 1 3).bind fun TR => (if TR = true then ((Ya.f a2 0 4).bind fun S9 => (if S9 = true then ((XQ.f k Y2 Yi XE Yr false a2).bind fun Vu => (if Vu = 0 then (some true) else (some (Vu == a1)))) else (some false))) else (some false))) = some r := by rw [if_neg (show ¬ (false = true) by decide)] at H; exact H
  clear H; have H := H1; clear H1; replace H := Option.bind_eq_some_iff.mp H; obtain ⟨TR, A70, H⟩ := H; replace H : (if TR = true then ((Ya.f a2 0 4).bind fun S9 => (if S9 = true then ((XQ.f k Y2 Yi XE Yr false a2).bind fun Vu => (if Vu = 0 then (some true) else (some (Vu == a1)))) else (some false))) else (some false)) = some r := H; have A7 := az A70; clear A70
  by_cases c8 : TR = true
  ·subst c8
   have H1 : ((Ya.f a2 0 4).bind fun S9 => (if S9 = true then ((XQ.f k Y2 Yi XE Yr false a2).bind fun Vu => (if Vu = 0 then (some true) else (some (Vu == a1)))) else (some false))) = some r := by rw [if_pos rfl] at H; exact H
   clear H; have H := H1; clear H1; replace H := Option.bind_eq_some_iff.mp H; obtain ⟨S9, A90, H⟩ := H; replace H : (if S9 = true then ((XQ.f k Y2 Yi XE Yr false a2).bind fun Vu => (if Vu = 0 then (some true) else (some (Vu == a1)))) else (some false)) = some r := H; have A9 := az A90; clear A90
   by_cases c10 : S9 = true
   ·subst c10
    have H1 : ((XQ.f k Y2 Yi XE Yr false a2).bind fun Vu => (if Vu = 0 then (some true) else (some (Vu == a1)))) = some r := by rw [if_pos rfl] at H; exact H
    clear H; have H := H1; clear H1; replace H := Option.bind_eq_some_iff.mp H; obtain ⟨Vu, A110, H⟩ := H; replace H : (if Vu = 0 then (some true) else (some (Vu == a1))) = some r := H; have A11 := az A110; clear A110
    by_cases c12 : Vu = 0
    ·rw [if_pos c12] at H
     have QG : (Vu == 0) = true := beq_iff_eq.mpr c12; have Xgn : (Vu != 0) = false := bne_eq_false_iff_eq.mpr c12; clear c12; obtain rfl := Option.some.inj H
     go_enter Try.func152, Try.ntmps152
     go_wp2_with (first | ((with_reducible refine XZ (N := 3) rfl ?_); refine YL ?hg (N := 3) ?hd (cs := #[.slice JJ Y2.length JK, .slice JS Yi.length J6, .slice Vf XE.length Vg, .int .i64 Yr, .bool false]) (t := 52) ?hr ?_; (case hd => rfl); (case hg => rfl); (case hr => exact zb21); intro Sb hg w13 hbox hb; have Vj := az (hbox); have Sc := az ((zb150 : w.heap.size ≤ Sb)); have Qa := Sc; replace HB := az (Xe zb1 hb); clear hb hbox hg; obtain ⟨Ic, Ie, Ig, Ih, Ii⟩ := cz5 Vj; obtain ⟨Ij, Ik, Il, Im⟩ := fz4 Vj; have Io := Xf Vj.out 4) | (go_at_call 81; (with_reducible refine (Ya.calls a1 1 3 true _ A7.out).mono ?_); rintro e w' ⟨rfl, ⟨nd, rfl⟩⟩) | (go_at_call 81; (with_reducible refine (Ya.calls a2 0 4 true _ A9.out).mono ?_); rintro e w' ⟨rfl, ⟨nd, rfl⟩⟩) | ((with_reducible refine Xg (f := 131) rfl ?_); refine X6 (some 22) rfl rfl Try.func131 zb13 rfl #[.agg #[.slice JJ Y2.length JK, .slice JS Yi.length J6, .slice Vf XE.length Vg, .int .i64 Yr, .bool false], .int .i64 a2] rfl zb0 ?_; (with_reducible refine (XQ.calls k _ _ Y2 _ _ Yi _ _ XE Yr false a2 Vu _ ?side1 ?side2 ?side3 ?side4 ?side5 ?side6 A11.out).mono ?_); (case side1 => exact zb160); (case side2 => exact Ol.out); (case side3 => exact zb159); (case side4 => exact Cm.out); (case side5 => exact zb158); (case side6 => exact TD.out); rintro e w15 ⟨rfl, hb⟩; refine ⟨_, rfl, ?_⟩; replace Vj := bq Vj hb; replace HB := az (Xe zb6 hb); (try clear hb); (try clear hb2); (try clear hk); (try clear hi)))
     go_ret
     exact ⟨zb11, zb6⟩
    ·rw [if_neg c12] at H
     have QG : (Vu == 0) = false := beq_eq_false_iff_ne.mpr c12; have Xgn : (Vu != 0) = true := bne_iff_ne.mpr c12; obtain rfl := Option.some.inj H
     go_enter Try.func152, Try.ntmps152
     go_wp2_with (first | ((with_reducible refine XZ (N := 3) rfl ?_); refine YL ?hg (N := 3) ?hd (cs := #[.slice JJ Y2.length JK, .slice JS Yi.length J6, .slice Vf XE.length Vg, .int .i64 Yr, .bool false]) (t := 52) ?hr ?_; (case hd => rfl); (case hg => rfl); (case hr => exact zb21); intro Sb hg w16 hbox hb; have Vj := az (hbox); have Sc := az ((zb150 : w.heap.size ≤ Sb)); have Qa := Sc; replace HB := az (Xe zb1 hb); clear hb hbox hg; obtain ⟨Xj7, Xj8, Xj9, XjA, XjB⟩ := cz5 Vj; obtain ⟨XjC, XjD, XjE, XjF⟩ := fz4 Vj; have XjG := Xf Vj.out 4) | (go_at_call 81; (with_reducible refine (Ya.calls a1 1 3 true _ A7.out).mono ?_); rintro e w' ⟨rfl, ⟨nd, rfl⟩⟩) | (go_at_call 81; (with_reducible refine (Ya.calls a2 0 4 true _ A9.out).mono ?_); rintro e w' ⟨rfl, ⟨nd, rfl⟩⟩) | ((with_reducible refine Xg (f := 131) rfl ?_); refine X6 (some 22) rfl rfl Try.func131 zb13 rfl #[.agg #[.slice JJ Y2.length JK, .slice JS Yi.length J6, .slice Vf XE.length Vg, .int .i64 Yr, .bool false], .int .i64 a2] rfl zb0 ?_; (with_reducible refine (XQ.calls k _ _ Y2 _ _ Yi _ _ XE Yr false a2 Vu _ ?side1 ?side2 ?side3 ?side4 ?side5 ?side6 A11.out).mono ?_); (case side1 => exact zb160); (case side2 => exact Ol.out); (case side3 => exact zb159); (case side4 => exact Cm.out); (case side5 => exact zb158); (case side6 => exact TD.out); rintro e w18 ⟨rfl, hb⟩; refine ⟨_, rfl, ?_⟩; replace Vj := bq Vj hb; replace HB := az (Xe zb6 hb); (try clear hb); (try clear hb2); (try clear hk); (try clear hi)))
     go_ret
     exact ⟨zb11, zb6⟩
   ·replace c10 := Bool.eq_false_iff.mpr c10
    subst c10
    have H1 : (some false) = some r := by rw [if_neg (show ¬ (false = true) by decide)] at H; exact H
    clear H; have H := H1; clear H1; obtain rfl := Option.some.inj H
    go_enter Try.func152, Try.ntmps152
    go_wp2_with (first | ((with_reducible refine XZ (N := 3) rfl ?_); refine YL ?hg (N := 3) ?hd (cs := #[.slice JJ Y2.length JK, .slice JS Yi.length J6, .slice Vf XE.length Vg, .int .i64 Yr, .bool false]) (t := 52) ?hr ?_; (case hd => rfl); (case hg => rfl); (case hr => exact zb21); intro Sb hg w19 hbox hb; have Vj := az (hbox); have Sc := az ((zb150 : w.heap.size ≤ Sb)); have Qa := Sc; replace HB := az (Xe zb1 hb); clear hb hbox hg; obtain ⟨Xz6, Xz7, Xz8, Xz9, XzA⟩ := cz5 Vj; obtain ⟨XzB, XzC, XzD, XzE⟩ := fz4 Vj; have XzF := Xf Vj.out 4) | (go_at_call 81; (with_reducible refine (Ya.calls a1 1 3 true _ A7.out).mono ?_); rintro e w' ⟨rfl, ⟨nd, rfl⟩⟩) | (go_at_call 81; (with_reducible refine (Ya.calls a2 0 4 false _ A9.out).mono ?_); rintro e w' ⟨rfl, ⟨nd, rfl⟩⟩))
    go_ret
    exact ⟨zb11, zb6⟩
  ·replace c8 := Bool.eq_false_iff.mpr c8
   subst c8
   have H1 : (some false) = some r := by rw [if_neg (show ¬ (false = true) by decide)] at H; exact H
   clear H; have H := H1; clear H1; obtain rfl := Option.some.inj H
   go_enter Try.func152, Try.ntmps152
   go_wp2_with (first | ((with_reducible refine XZ (N := 3) rfl ?_); refine YL ?hg (N := 3) ?hd (cs := #[.slice JJ Y2.length JK, .slice JS Yi.length J6, .slice Vf XE.length Vg, .int .i64 Yr, .bool false]) (t := 52) ?hr ?_; (case hd => rfl); (case hg => rfl); (case hr => exact zb21); intro Sb hg w21 hbox hb; have Vj := az (hbox); have Sc := az ((zb150 : w.heap.size ≤ Sb)); have Qa := Sc; replace HB := az (Xe zb1 hb); clear hb hbox hg; obtain ⟨XiW, XiX, XiY, XiZ, Xja⟩ := cz5 Vj; obtain ⟨Xjb, Xjc, Xjd, Xje⟩ := fz4 Vj; have Xjf := Xf Vj.out 4) | (go_at_call 81; (with_reducible refine (Ya.calls a1 1 3 false _ A7.out).mono ?_); rintro e w' ⟨rfl, ⟨nd, rfl⟩⟩))
   go_ret
   exact ⟨zb11, zb6⟩
def YG.l0 : Nat → List (S41) → Int → Int → Option (Bool)
 | 0, _, _, _ => none
 | k + 1, x0, x2, x7 => if x7 > 0 then (if 0 ≤ (wrap64 (x7 - 1)) then (if (wrap64 (x7 - 1)) < (x0.length : Int) then (if ((Xa x0 (wrap64 (x7 - 1))).f0) = 2 then (if ((Xa x0 (wrap64 (x7 - 1))).f2) = x2 then (if ((Xa x0 (wrap64 (x7 - 1))).f5) > 0 then (some true) else (YG.l0 k x0 x2 ((Xa x0 (wrap64 (x7 - 1))).f6))) else (YG.l0 k x0 x2 ((Xa x0 (wrap64 (x7 - 1))).f6))) else (YG.l0 k x0 x2 ((Xa x0 (wrap64 (x7 - 1))).f6))) else (none)) else (none)) else (some false)
def YG.f (k : Nat) (l0 : List (S41)) (a1 : Int) (a2 : Int) : Option (Bool) := (Xu.f k l0 a1).bind fun Bo => (YG.l0 k l0 a2 Bo)
set_option maxHeartbeats 8000000 in
set_option maxRecDepth 100000 in
theorem YG.calls (k : Nat) (A0 : Option Addr) (c0 : Nat) (l0 : List (S41)) (a1 : Int) (a2 : Int) (r : Bool) (w : World) (hr0 : Kd.C k41 w A0 l0.length l0) (hc0 : l0.length ≤ c0) (h : YG.f k l0 a1 a2 = some r) :
  Calls Try.prog 154 #[.slice A0 l0.length c0, .int .i64 a1, .int .i64 a2] w fun e w' => e = .returned (.bool r) ∧ Below w.heap.size w w' := by
 have hu41 := Try.underlying41; have HR0 := az hr0; have HC0 := az hc0; clear hr0 hc0; have HB := az (Below.refl w.heap.size w); have H : ((Xu.f k l0 a1).bind fun Bo => (YG.l0 k l0 a2 Bo)) = some r := h; clear h; replace H := Option.bind_eq_some_iff.mp H; obtain ⟨Bo, A40, H⟩ := H; replace H : (YG.l0 k l0 a2 Bo) = some r := H; have A4 := az A40; clear A40; have H' := az H; clear H
 go_enter Try.func154, Try.ntmps154
 go_wp2_with (first | ((with_reducible refine Xg (f := 84) rfl ?_); refine X6 (some 11) rfl rfl Try.func84 zb13 rfl #[.slice A0 l0.length c0, .int .i64 a1] rfl zb0 ?_; (with_reducible refine (Xu.calls k _ _ l0 a1 Bo _ ?side1 ?side2 A4.out).mono ?_); (case side1 => exact zb23); (case side2 => exact HC0.out); rintro e w' ⟨rfl, ⟨nd, rfl⟩⟩; refine ⟨_, rfl, ?_⟩))
 go_loopg [7] k (fun kq v7 w' => ∃ (FE : Int), v7 = .int .i64 FE ∧ Aside0 (YG.l0 kq l0 a2 FE = some r) ∧ Aside0 (kq ≤ k) ∧ Aside0 (Below w.heap.size w w'))
 case atStart => exact ⟨(Bo), zb12, H', ⟨Nat.le_refl _⟩, ⟨zb1⟩⟩
 case round =>
  clear H';(try clear c1);(try clear p2)
  obtain ⟨FE, rfl, HA, HK1, HB⟩ := hrel
  cases gk with
  | zero => exact absurd HA.out (by simp [YG.l0])
  | succ k1 =>
   have H := HA.out; clear HA; simp only [YG.l0] at H
   by_cases c5 : FE > 0
   ·rw [if_pos c5] at H
    have c5b0 : decide (0 < FE) = true := decide_eq_true c5; clear c5
    obtain ⟨ji6, hji6⟩ : ∃ j_ : Int, (wrap64 (FE - 1)) = j_ := ⟨_, rfl⟩
    replace H : (if 0 ≤ (ji6) then (if (ji6) < (l0.length : Int) then (if ((Xa l0 (ji6)).f0) = 2 then (if ((Xa l0 (ji6)).f2) = a2 then (if ((Xa l0 (ji6)).f5) > 0 then (some true) else (YG.l0 k1 l0 a2 ((Xa l0 (ji6)).f6))) else (YG.l0 k1 l0 a2 ((Xa l0 (ji6)).f6))) else (YG.l0 k1 l0 a2 ((Xa l0 (ji6)).f6))) else (none)) else (none)) = some r := by first | (rw [hji6] at H; exact H) | (simp only [hji6] at H ⊢; exact H)
    have hji6w : (IntKind.i64.wrap (FE - 1)) = ji6 := (XG _).trans hji6
    by_cases c7 : 0 ≤ (ji6)
    ·rw [if_pos c7] at H
     have c7b0 : decide (0 ≤ (ji6)) = true := decide_eq_true c7; clear c7
     by_cases c8 : (ji6) < (l0.length : Int)
     ·rw [if_pos c8] at H
      have c8b0 : decide ((ji6) < (l0.length : Int)) = true := decide_eq_true c8; clear c8
      by_cases c9 : ((Xa l0 (ji6)).f0) = 2
      ·rw [if_pos c9] at H
       have c9b0 : (((Xa l0 (ji6)).f0) == 2) = true := beq_iff_eq.mpr c9; have c9b1 : (((Xa l0 (ji6)).f0) != 2) = false := bne_eq_false_iff_eq.mpr c9; clear c9
       by_cases c10 : ((Xa l0 (ji6)).f2) = a2
       ·rw [if_pos c10] at H
        have MN : (((Xa l0 (ji6)).f2) == a2) = true := beq_iff_eq.mpr c10; have Be : (((Xa l0 (ji6)).f2) != a2) = false := bne_eq_false_iff_eq.mpr c10; clear c10
        by_cases c11 : ((Xa l0 (ji6)).f5) > 0
        ·rw [if_pos c11] at H
         have Xcb : decide (0 < ((Xa l0 (ji6)).f5)) = true := decide_eq_true c11; clear c11; obtain rfl := Option.some.inj H; have M4 : 0 ≤ ((ji6) : Int) := of_decide_eq_true zb9; have M5 : (ji6) < (l0.length : Int) := of_decide_eq_true zb9; obtain ⟨Lp, Bp, DL, DN, DR, DT, DU, DV, DW, DX⟩ := YN HR0.out (ji6) M4 M5
         cases Bp
         replace DL := cb HB DL; replace DN := cb HB DN; replace DR := cb HB DR; replace DT := cb HB DT; replace DU := cb HB DU; replace DV := cb HB DV; replace DW := cb HB DW; replace DX := cb HB DX; replace M4 := eq_true M4; replace M5 := eq_true M5
         go_wp2_with (first | ((with_reducible refine XZ (N := 8) rfl ?_); refine YL ?hg (N := 8) ?hd (cs := #[.int .i64 0, .int .i64 0, .int .i64 0, .int .i64 0, .int .i64 0, .int .i64 0, .int .i64 0, .int .i64 0]) (t := 41) ?hr ?_; (case hd => rfl); (case hg => rfl); (case hr => exact zb21); intro Py hg w12 hbox hb; have U4 := az (hbox); have Nr := az ((zb150 : w.heap.size ≤ Py)); have Xbl := Nr; replace HB := az (Xe zb1 hb); clear hb hbox hg; obtain ⟨Xcn, Xco, Xcp, Xcq, Xcr, Xcs, Xct, Xcu⟩ := cz8 U4; obtain ⟨Xcv, Xcw, Xcx, Xcy, Xcz, Xc0, Xc1⟩ := fz7 U4; have Xc2 := Xf U4.out 7))
         go_ret
         exact ⟨by first | rfl | (simp [Zz, Z0] <;> rfl) | (simp only [← hji6]; first | rfl | (simp [Zz, Z0] <;> rfl)) | (simp [*, Zz, Z0] <;> rfl), zb6⟩
        ·rw [if_neg c11] at H
         have Xcb : decide (0 < ((Xa l0 (ji6)).f5)) = false := decide_eq_false c11; clear c11; have H' := az H; clear H; have M4 : 0 ≤ ((ji6) : Int) := of_decide_eq_true zb9; have M5 : (ji6) < (l0.length : Int) := of_decide_eq_true zb9; obtain ⟨Lp, Bp, DL, DN, DR, DT, DU, DV, DW, DX⟩ := YN HR0.out (ji6) M4 M5
         cases Bp
         replace DL := cb HB DL; replace DN := cb HB DN; replace DR := cb HB DR; replace DT := cb HB DT; replace DU := cb HB DU; replace DV := cb HB DV; replace DW := cb HB DW; replace DX := cb HB DX; replace M4 := eq_true M4; replace M5 := eq_true M5
         go_wp2_with (first | ((with_reducible refine XZ (N := 8) rfl ?_); refine YL ?hg (N := 8) ?hd (cs := #[.int .i64 0, .int .i64 0, .int .i64 0, .int .i64 0, .int .i64 0, .int .i64 0, .int .i64 0, .int .i64 0]) (t := 41) ?hr ?_; (case hd => rfl); (case hg => rfl); (case hr => exact zb21); intro Py hg w14 hbox hb; have U4 := az (hbox); have Nr := az ((zb150 : w.heap.size ≤ Py)); have Xbl := Nr; replace HB := az (Xe zb1 hb); clear hb hbox hg; obtain ⟨XhC, XhD, XhE, XhF, XhG, XhH, XhI, XhJ⟩ := cz8 U4; obtain ⟨XhK, XhL, XhM, XhN, XhO, XhP, XhQ, XhR⟩ := fz8 U4; have Xgo : 0 ≤ ((ji6) : Int) := of_decide_eq_true zb9; have Xgp : (ji6) < (l0.length : Int) := of_decide_eq_true zb9; obtain ⟨Xnt, XsW, We, Kg, Kh, Ki, Kj, Kk, Kl, Km⟩ := YN HR0.out (ji6) Xgo Xgp; obtain rfl : Lp = Xnt := (by injection XsW); have Sd := nq We Nr; replace We := cb HB We; replace Kg := cb HB Kg; replace Kh := cb HB Kh; replace Ki := cb HB Ki; replace Kj := cb HB Kj; replace Kk := cb HB Kk; replace Kl := cb HB Kl; replace Km := cb HB Km; replace We := c8 (Xa l0 (ji6)) We (na Sd); replace Kg := c8 (Xa l0 (ji6)) Kg (na Sd); replace Kh := c8 (Xa l0 (ji6)) Kh (na Sd); replace Ki := c8 (Xa l0 (ji6)) Ki (na Sd); replace Kj := c8 (Xa l0 (ji6)) Kj (na Sd); replace Kk := c8 (Xa l0 (ji6)) Kk (na Sd); replace Kl := c8 (Xa l0 (ji6)) Kl (na Sd); replace Km := c8 (Xa l0 (ji6)) Km (na Sd); clear Sd; replace Xgo := eq_true Xgo; replace Xgp := eq_true Xgp))
         go_roundg k1
         case measure => have := HK1.out; omega
         case rel => exact ⟨((Xa l0 (ji6)).f6), zb86, H', ⟨zb61⟩, ⟨zb6⟩⟩
       ·rw [if_neg c10] at H
        have MN : (((Xa l0 (ji6)).f2) == a2) = false := beq_eq_false_iff_ne.mpr c10; have Be : (((Xa l0 (ji6)).f2) != a2) = true := bne_iff_ne.mpr c10; have H' := az H; clear H; have M4 : 0 ≤ ((ji6) : Int) := of_decide_eq_true zb9; have M5 : (ji6) < (l0.length : Int) := of_decide_eq_true zb9; obtain ⟨Lp, Bp, DL, DN, DR, DT, DU, DV, DW, DX⟩ := YN HR0.out (ji6) M4 M5
        cases Bp
        replace DL := cb HB DL; replace DN := cb HB DN; replace DR := cb HB DR; replace DT := cb HB DT; replace DU := cb HB DU; replace DV := cb HB DV; replace DW := cb HB DW; replace DX := cb HB DX; replace M4 := eq_true M4; replace M5 := eq_true M5
        go_wp2_with (first | ((with_reducible refine XZ (N := 8) rfl ?_); refine YL ?hg (N := 8) ?hd (cs := #[.int .i64 0, .int .i64 0, .int .i64 0, .int .i64 0, .int .i64 0, .int .i64 0, .int .i64 0, .int .i64 0]) (t := 41) ?hr ?_; (case hd => rfl); (case hg => rfl); (case hr => exact zb21); intro Py hg w16 hbox hb; have U4 := az (hbox); have Nr := az ((zb150 : w.heap.size ≤ Py)); have Xbl := Nr; replace HB := az (Xe zb1 hb); clear hb hbox hg; obtain ⟨Xj7, Xj8, Xj9, XjA, XjB, XzG, XzH, XzI⟩ := cz8 U4; obtain ⟨XjC, XjD, XjE, XjF, XjG, XzJ, XzK, XzL⟩ := fz8 U4; have Xgq : 0 ≤ ((ji6) : Int) := of_decide_eq_true zb9; have Xgr : (ji6) < (l0.length : Int) := of_decide_eq_true zb9; obtain ⟨Xnu, XsX, Wh, Kn, Ko, Kq, Kr, Kt, Ku, Kv⟩ := YN HR0.out (ji6) Xgq Xgr; obtain rfl : Lp = Xnu := (by injection XsX); have Sg := nq Wh Nr; replace Wh := cb HB Wh; replace Kn := cb HB Kn; replace Ko := cb HB Ko; replace Kq := cb HB Kq; replace Kr := cb HB Kr; replace Kt := cb HB Kt; replace Ku := cb HB Ku; replace Kv := cb HB Kv; replace Wh := c8 (Xa l0 (ji6)) Wh (na Sg); replace Kn := c8 (Xa l0 (ji6)) Kn (na Sg); replace Ko := c8 (Xa l0 (ji6)) Ko (na Sg); replace Kq := c8 (Xa l0 (ji6)) Kq (na Sg); replace Kr := c8 (Xa l0 (ji6)) Kr (na Sg); replace Kt := c8 (Xa l0 (ji6)) Kt (na Sg); replace Ku := c8 (Xa l0 (ji6)) Ku (na Sg); replace Kv := c8 (Xa l0 (ji6)) Kv (na Sg); clear Sg; replace Xgq := eq_true Xgq; replace Xgr := eq_true Xgr))
        go_roundg k1
        case measure => have := HK1.out; omega
        case rel => exact ⟨((Xa l0 (ji6)).f6), zb86, H', ⟨zb61⟩, ⟨zb6⟩⟩
      ·rw [if_neg c9] at H
       have c9b0 : (((Xa l0 (ji6)).f0) == 2) = false := beq_eq_false_iff_ne.mpr c9; have c9b1 : (((Xa l0 (ji6)).f0) != 2) = true := bne_iff_ne.mpr c9; have H' := az H; clear H; have M4 : 0 ≤ ((ji6) : Int) := of_decide_eq_true zb9; have M5 : (ji6) < (l0.length : Int) := of_decide_eq_true zb9; obtain ⟨Lp, Bp, DL, DN, DR, DT, DU, DV, DW, DX⟩ := YN HR0.out (ji6) M4 M5
       cases Bp
       replace DL := cb HB DL; replace DN := cb HB DN; replace DR := cb HB DR; replace DT := cb HB DT; replace DU := cb HB DU; replace DV := cb HB DV; replace DW := cb HB DW; replace DX := cb HB DX; replace M4 := eq_true M4; replace M5 := eq_true M5
       go_wp2_with (first | ((with_reducible refine XZ (N := 8) rfl ?_); refine YL ?hg (N := 8) ?hd (cs := #[.int .i64 0, .int .i64 0, .int .i64 0, .int .i64 0, .int .i64 0, .int .i64 0, .int .i64 0, .int .i64 0]) (t := 41) ?hr ?_; (case hd => rfl); (case hg => rfl); (case hr => exact zb21); intro Py hg w18 hbox hb; have U4 := az (hbox); have Nr := az ((zb150 : w.heap.size ≤ Py)); have Xbl := Nr; replace HB := az (Xe zb1 hb); clear hb hbox hg; obtain ⟨XzM, XzN, XzO, XzP, XzQ, XzR, XzS, XzT⟩ := cz8 U4; obtain ⟨XzU, XzV, XzW, XzX, XzY, XzZ, X0a, X0b⟩ := fz8 U4; have Xgs : 0 ≤ ((ji6) : Int) := of_decide_eq_true zb9; have Xgt : (ji6) < (l0.length : Int) := of_decide_eq_true zb9; obtain ⟨Xnv, XsY, Wi, Kw, Ky, Kz, K3, K4, K5, K6⟩ := YN HR0.out (ji6) Xgs Xgt; obtain rfl : Lp = Xnv := (by injection XsY); have Si := nq Wi Nr; replace Wi := cb HB Wi; replace Kw := cb HB Kw; replace Ky := cb HB Ky; replace Kz := cb HB Kz; replace K3 := cb HB K3; replace K4 := cb HB K4; replace K5 := cb HB K5; replace K6 := cb HB K6; replace Wi := c8 (Xa l0 (ji6)) Wi (na Si); replace Kw := c8 (Xa l0 (ji6)) Kw (na Si); replace Ky := c8 (Xa l0 (ji6)) Ky (na Si); replace Kz := c8 (Xa l0 (ji6)) Kz (na Si); replace K3 := c8 (Xa l0 (ji6)) K3 (na Si); replace K4 := c8 (Xa l0 (ji6)) K4 (na Si); replace K5 := c8 (Xa l0 (ji6)) K5 (na Si); replace K6 := c8 (Xa l0 (ji6)) K6 (na Si); clear Si; replace Xgs := eq_true Xgs; replace Xgt := eq_true Xgt))
       go_roundg k1
       case measure => have := HK1.out; omega
       case rel => exact ⟨((Xa l0 (ji6)).f6), zb86, H', ⟨zb61⟩, ⟨zb6⟩⟩
     ·rw [if_neg c8] at H
      exact absurd H (by simp)
    ·rw [if_neg c7] at H
     exact absurd H (by simp)
   ·rw [if_neg c5] at H
    have c5b0 : decide (0 < FE) = false := decide_eq_false c5; clear c5; obtain rfl := Option.some.inj H
    go_wp2
    go_ret
    exact ⟨zb11, zb1⟩
end Go.Proofs.Ytcefiblpnegepaa.Pr
