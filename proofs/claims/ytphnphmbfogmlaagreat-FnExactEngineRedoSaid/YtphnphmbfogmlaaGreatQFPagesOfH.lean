import Derived.Test.YtphnphmbfogmlaaGreatQFByq
import Derived.Test.YtphnphmbfogmlaaGreatQFSx
import Derived.Test.YtphnphmbfogmlaaGreatQFLast
import Derived.Test.YtphnphmbfogmlaaGreatQFPrLC2
import Derived.Test.YtphnphmbfogmlaaGreatQFPgTail
namespace Go.Proofs.YtphnphmbfogmlaaGreat.Pr
open Go.RowKit Go.PW Go.PL Go.PM Go.Proofs.YtphnphmbfogmlaaGreat.T Go.Sort
attribute [local go_sem] Y3 Y4 YN YO Ya Yb Y5 Y6
set_option linter.unusedVariables false
set_option linter.unusedSimpArgs false
def XG.l0 (Hs : S76 → Bool) : Nat → List (S76) → List Int → List Int → Int → Int → Option (List Int)
 | 0, _, _, _, _, _ => none
 | k + 1, x0, x7, x13, x14, x15 => if x15 < x14 then (if 0 ≤ x15 then (if x15 < (x13.length : Int) then (if 0 ≤ (wrap64 ((rd x13 x15) - 1)) then (if (wrap64 ((rd x13 x15) - 1)) < (x0.length : Int) then ((some (Hs (Xa x0 (wrap64 ((rd x13 x15) - 1))))).bind fun RU => (if RU = true then (if x7.length < 17592186044416 then (XG.l0 Hs k x0 (x7 ++ [(Xa x0 (wrap64 ((rd x13 x15) - 1))).f2]) x13 x14 (wrap64 (x15 + 1))) else (none)) else (XG.l0 Hs k x0 x7 x13 x14 (wrap64 (x15 + 1))))) else (none)) else (none)) else (none)) else (none)) else (some x7)
def XG.f (Hs : S76 → Bool) (k : Nat) (l0 : List (S76)) (a1 : Int) : Option (List Int) := (Ze.f k l0 a1).bind fun Zz => (XG.l0 Hs k l0 ([] : List Int) Zz (Zz.length : Int) 0)
set_option maxHeartbeats 8000000 in
set_option maxRecDepth 100000 in
theorem KG (Hs : S76 → Bool) (hH : ∀ (x : S76) (w : World), Calls Tryz.prog 62 #[PU x] w fun e w' => e = .returned (.bool (Hs x)) ∧ Below w.heap.size w w') (k : Nat) (A0 : Option Addr) (c0 : Nat) (l0 : List (S76)) (a1 : Int) (r : List Int) (w : World) (hr0 : Kd.C k76 w A0 l0.length l0) (hc0 : l0.length ≤ c0) (hlen : r.length < 4611686018427387904) (h : XG.f Hs k l0 a1 = some r) :
 Calls Tryz.prog 61 #[.slice A0 l0.length c0, .int .i64 a1, .func (Fn.func 62) #[] #[]] w fun e w' => ∃ v0_ : Value, e = .returned (v0_) ∧ Z (Kd.int .i64) 3 w' w.heap.size (fun _ => True) v0_ (MR r) ∧ Below w.heap.size w w' := by
 have hu76 := Tryz.underlying76; have HHs := az hH; clear hH; have HR0 := az hr0; have HC0 := az hc0; clear hr0 hc0; have HB := az (Below.refl w.heap.size w); have H : ((Ze.f k l0 a1).bind fun Zz => (XG.l0 Hs k l0 ([] : List Int) Zz (Zz.length : Int) 0)) = some r := h; clear h; replace H := Option.bind_eq_some_iff.mp H; obtain ⟨Zz, A40, H⟩ := H; replace H : (XG.l0 Hs k l0 ([] : List Int) Zz (Zz.length : Int) 0) = some r := H; have A4 := az A40; clear A40; have H' := az H; clear H
 go_enter Tryz.func61, Tryz.ntmps61
 go_wp2_with (first | ((with_reducible refine Xo (f := 91) rfl ?_); refine Yx (some 13) rfl rfl Tryz.func91 zb6 rfl #[.slice A0 l0.length c0, .int .i64 a1] rfl zb2 ?_; (with_reducible refine (Ze.calls k _ _ l0 a1 Zz _ ?side1 ?side2 A4.out).mono ?_); (case side1 => exact zb16); (case side2 => exact HC0.out); rintro e w5 ⟨v482, rfl, ho0, hb⟩; refine ⟨_, rfl, ?_⟩; have Xgb := az (Kd.YY ho0 (XA zb0)); replace HB := az (Xc zb0 hb); (try clear hb); (try clear hb2); (try clear hk); (try clear hi); (try clear ho0); obtain ⟨Ao6, co6, eo6⟩ := Kd.Y2 Xgb.out; subst eo6))
 go_loopg [7, 15] k (fun kq v7 v15 w' => ∃ (J5 : List Int) (Zo : Int), v15 = .int .i64 Zo ∧ Aside0 (XG.l0 Hs kq l0 J5 Zz (Zz.length : Int) Zo = some r) ∧ Aside0 (kq ≤ k) ∧ Aside0 (Kd.R (Kd.int .i64) 3 w' w.heap.size (fun k_ => some k_ ≠ ((.slice Ao6 Zz.length co6) : Value).ownBlock) v7 J5) ∧ Aside0 (Kd.R (Kd.int .i64) 3 w' w.heap.size (fun k_ => some k_ ≠ (v7 : Value).ownBlock) (.slice Ao6 Zz.length co6) Zz) ∧ Aside0 (Below w.heap.size w w'))
 case atStart => exact ⟨(([] : List Int)), (0), zb5, H', ⟨Nat.le_refl _⟩, ⟨zb44⟩, ⟨zb109⟩, ⟨zb0⟩⟩
 case round =>
  clear H'
  try clear p2
  try clear c6
  obtain ⟨J5, Zo, rfl, HA, HK1, HO_7, HO_13, HB⟩ := hrel
  cases gk with
  | zero => exact absurd HA.out (by simp [XG.l0])
  | succ k1 =>
   have H := HA.out; clear HA; simp only [XG.l0] at H
   by_cases c7 : Zo < (Zz.length : Int)
   ·rw [if_pos c7] at H
    have c7b0 : decide (Zo < (Zz.length : Int)) = true := decide_eq_true c7; clear c7
    by_cases c8 : 0 ≤ Zo
    ·rw [if_pos c8] at H
     have c8b0 : decide (0 ≤ Zo) = true := decide_eq_true c8; clear c8
     by_cases c9 : Zo < (Zz.length : Int)
     ·rw [if_pos c9] at H
      have c9b0 : decide (Zo < (Zz.length : Int)) = true := decide_eq_true c9; clear c9
      obtain ⟨Zc, RX⟩ : ∃ j_ : Int, (wrap64 ((rd Zz Zo) - 1)) = j_ := ⟨_, rfl⟩
      replace H : (if 0 ≤ (Zc) then (if (Zc) < (l0.length : Int) then ((some (Hs (Xa l0 (Zc)))).bind fun RU => (if RU = true then (if J5.length < 17592186044416 then (XG.l0 Hs k1 l0 (J5 ++ [(Xa l0 (Zc)).f2]) Zz (Zz.length : Int) (wrap64 (Zo + 1))) else (none)) else (XG.l0 Hs k1 l0 J5 Zz (Zz.length : Int) (wrap64 (Zo + 1))))) else (none)) else (none)) = some r := by first | (rw [RX] at H; exact H) | (simp only [RX] at H ⊢; exact H)
      have hji10w : (IntKind.i64.wrap ((rd Zz Zo) - 1)) = Zc := (Xz _).trans RX
      by_cases c11 : 0 ≤ (Zc)
      ·rw [if_pos c11] at H
       have XbL : decide (0 ≤ (Zc)) = true := decide_eq_true c11; clear c11
       by_cases c12 : (Zc) < (l0.length : Int)
       ·rw [if_pos c12] at H
        have Ph : decide ((Zc) < (l0.length : Int)) = true := decide_eq_true c12; clear c12; replace H := Option.bind_eq_some_iff.mp H; obtain ⟨RU, XbM, H⟩ := H; replace H : (if RU = true then (if J5.length < 17592186044416 then (XG.l0 Hs k1 l0 (J5 ++ [(Xa l0 (Zc)).f2]) Zz (Zz.length : Int) (wrap64 (Zo + 1))) else (none)) else (XG.l0 Hs k1 l0 J5 Zz (Zz.length : Int) (wrap64 (Zo + 1)))) = some r := H; have A13 := az XbM; clear XbM
        by_cases c14 : RU = true
        ·subst c14
         have H1 : (if J5.length < 17592186044416 then (XG.l0 Hs k1 l0 (J5 ++ [(Xa l0 (Zc)).f2]) Zz (Zz.length : Int) (wrap64 (Zo + 1))) else (none)) = some r := by rw [if_pos rfl] at H; exact H
         clear H; have H := H1; clear H1
         by_cases c15 : J5.length < 17592186044416
         ·rw [if_pos c15] at H
          have LMc15 := az c15; clear c15
          obtain ⟨Xl8, hy488⟩ : ∃ y_ : List Int, y_ = (J5 ++ [(Xa l0 (Zc)).f2]) := ⟨_, rfl⟩
          replace H : (XG.l0 Hs k1 l0 Xl8 Zz (Zz.length : Int) (wrap64 (Zo + 1))) = some r := by first | (rw [hy488]; with_reducible exact H) | (have H2_ := (Option.bind_some _ _).symm.trans H; rw [hy488]; with_reducible exact H2_) | (have H2_ := (Option.bind_some _ _).symm.trans H; with_reducible exact H2_) | with_reducible exact H | (rw [hy488]; exact H) | exact H
          have Ny488 := az hy488; clear hy488; have H' := az H; clear H; have Wm : 0 ≤ (Zo : Int) := of_decide_eq_true zb3; have Wn : Zo < (Zz.length : Int) := of_decide_eq_true zb3; obtain ⟨XbN, XdF, QP⟩ := Kd.Jn (Kd.X6 HO_13.out).2.2 Zo Wm Wn
          cases XdF
          replace Wm := eq_true Wm; replace Wn := eq_true Wn; have Wo : 0 ≤ ((Zc) : Int) := of_decide_eq_true zb3; have Wp : (Zc) < (l0.length : Int) := of_decide_eq_true zb3; obtain ⟨Xl9, XdG, D7, D8, D9, DC, DD, DF, DI, DJ⟩ := Ym HR0.out (Zc) Wo Wp
          cases XdG
          replace D7 := cb HB D7; replace D8 := cb HB D8; replace D9 := cb HB D9; replace DC := cb HB DC; replace DD := cb HB DD; replace DF := cb HB DF; replace DI := cb HB DI; replace DJ := cb HB DJ; replace Wo := eq_true Wo; replace Wp := eq_true Wp
          go_wp2_with (first | ((with_reducible refine Xp (N := 10) rfl ?_); refine Xn ?hg (N := 10) ?hd (cs := #[.int .i64 0, .int .i64 0, .int .i64 0, .int .i64 0, .int .i64 0, .int .i64 0, .int .i64 0, .int .i64 0]) (t := 76) ?hr ?_; (case hd => rfl); (case hg => rfl); (case hr => exact zb7); intro Md hg w16 hbox hb; replace HO_7 := az (Kd.Xr zb27 hb); replace HO_13 := az (Kd.Xr zb32 hb); have J6 := az (hbox); have RY := az ((zb95 : w.heap.size ≤ Md)); have XlA := RY; replace HB := az (Xc zb0 hb); clear hb hbox hg; obtain ⟨QQ, QR, QS, Xgc, Xgd, Xn7, Xn8, Xn9⟩ := cz8 J6; obtain ⟨QT, QU, QV, Xge, Xgf, XnA, XnB⟩ := fz7 J6; have XnC := Xe J6.out 7) | (go_at_call 62; refine (HHs.out (Xa l0 Zc) _).mono ?_; rintro e w18 ⟨rfl, hb⟩; rw [Option.some.inj A13.out]; replace HO_7 := az (Kd.Xr zb53 hb); replace HO_13 := az (Kd.Xr zb51 hb); replace J6 := az (Xk (g := Md) (o := .cells #[.int .i64 ((Xa l0 (Zc)).f0), .int .i64 ((Xa l0 (Zc)).f1), .int .i64 ((Xa l0 (Zc)).f2), .int .i64 ((Xa l0 (Zc)).f3), .int .i64 ((Xa l0 (Zc)).f4), .int .i64 ((Xa l0 (Zc)).f5), .int .i64 ((Xa l0 (Zc)).f6), .int .i64 ((Xa l0 (Zc)).f7)] 76 (0, 0)) zb63 hb); replace HB := az (Xc zb1 hb); (try clear hb); (try clear hb2); (try clear hk); (try clear hi); obtain ⟨TQ, TR, TS, Xgg, Xgh, Xgi, Xgj, Xgk⟩ := cz8 J6; obtain ⟨TT, TU, TV, Xgl, Xgm, Xgn, Xgo⟩ := fz7 J6; have Xgp := Xe J6.out 7) | ((with_reducible refine Z0 (b := .append) (xs := #[.tmp 27, .tmp 30]) rfl ?_); at_builtin; refine Kd.VV (Kd.int .i64) (w0 := w) w.heap.size rfl (.tmp 27) (.tmp 30) 37 3 (.int .i64 0) 8 rfl Tryz.underlying37 info3 rfl (by decide) (by omega) u7 J5 ((Xa l0 (Zc)).f2) [.int .i64 ((Xa l0 (Zc)).f2)] (fun k_ => some k_ ≠ (.slice (some XbN) Zz.length co6 : Value).ownBlock) (fun _ => False) rfl rfl ?aP (fun _ hk => hk.elim) ?aF ?aO ?aB ?aS ?aL ?_; (case aP => exact rfl); (case aB => exact zb1); (case aF => exact (fun k_ hk => Kd.fresh' (Kd.N7 zb32) k_ hk)); (case aO => exact zb27); (case aS => exact (XA zb1)); (case aL => have := LMc15.out; omega); intro v489 w20 ho hb hg hat; rw [← Ny488.out] at ho; replace HO_13 := az (Kd.Kg (ok := (fun _ => True)) zb88 hg hat); replace J6 := az (JQ (g := Md) (o := .cells #[.int .i64 ((Xa l0 (Zc)).f0), .int .i64 ((Xa l0 (Zc)).f1), .int .i64 ((Xa l0 (Zc)).f2), .int .i64 ((Xa l0 (Zc)).f3), .int .i64 ((Xa l0 (Zc)).f4), .int .i64 ((Xa l0 (Zc)).f5), .int .i64 ((Xa l0 (Zc)).f6), .int .i64 ((Xa l0 (Zc)).f7)] 76 (0, 0)) (by (with_reducible repeat (first | apply bn | apply bd | apply ba)); exact J6.out) hg (Kd.O4 HO_7.out J6.out (by decide))); replace HB := az (hb); have XlB := az (ho); clear HO_7; clear ho hb hg hat))
          go_roundg k1
          case measure => have := HK1.out; omega
          case rel => exact ⟨(Xl8), (wrap64 (Zo + 1)), zb5, H', ⟨zb33⟩, ⟨by (with_reducible repeat (first | apply Kd.Yp | apply Kd.Y0 | apply Kd.YC)); exact XlB.out⟩, ⟨zb91⟩, ⟨zb1⟩⟩
         ·rw [if_neg c15] at H
          exact absurd H (by simp)
        ·replace c14 := Bool.eq_false_iff.mpr c14
         subst c14
         have H1 : (XG.l0 Hs k1 l0 J5 Zz (Zz.length : Int) (wrap64 (Zo + 1))) = some r := by rw [if_neg (show ¬ (false = true) by decide)] at H; exact H
         clear H; have H := H1; clear H1; have H' := az H; clear H; have Wm : 0 ≤ (Zo : Int) := of_decide_eq_true zb3; have Wn : Zo < (Zz.length : Int) := of_decide_eq_true zb3; obtain ⟨XbN, XdF, QP⟩ := Kd.Jn (Kd.X6 HO_13.out).2.2 Zo Wm Wn
         cases XdF
         replace Wm := eq_true Wm; replace Wn := eq_true Wn; have Wo : 0 ≤ ((Zc) : Int) := of_decide_eq_true zb3; have Wp : (Zc) < (l0.length : Int) := of_decide_eq_true zb3; obtain ⟨Xl9, XdG, D7, D8, D9, DC, DD, DF, DI, DJ⟩ := Ym HR0.out (Zc) Wo Wp
         cases XdG
         replace D7 := cb HB D7; replace D8 := cb HB D8; replace D9 := cb HB D9; replace DC := cb HB DC; replace DD := cb HB DD; replace DF := cb HB DF; replace DI := cb HB DI; replace DJ := cb HB DJ; replace Wo := eq_true Wo; replace Wp := eq_true Wp
         go_wp2_with (first | ((with_reducible refine Xp (N := 10) rfl ?_); refine Xn ?hg (N := 10) ?hd (cs := #[.int .i64 0, .int .i64 0, .int .i64 0, .int .i64 0, .int .i64 0, .int .i64 0, .int .i64 0, .int .i64 0]) (t := 76) ?hr ?_; (case hd => rfl); (case hg => rfl); (case hr => exact zb7); intro Md hg w21 hbox hb; replace HO_7 := az (Kd.Xr zb27 hb); replace HO_13 := az (Kd.Xr zb32 hb); have J6 := az (hbox); have RY := az ((zb95 : w.heap.size ≤ Md)); have XlA := RY; replace HB := az (Xc zb0 hb); clear hb hbox hg; obtain ⟨Xgq, Xgr, Xgs, Xgt, Xgu, XnD, XnE, XnF⟩ := cz8 J6; obtain ⟨Xgv, Xgw, Xgx, Xgy, Xgz, XnG, XnH⟩ := fz7 J6; have XnI := Xe J6.out 7) | (go_at_call 62; refine (HHs.out (Xa l0 Zc) _).mono ?_; rintro e w23 ⟨rfl, hb⟩; rw [Option.some.inj A13.out]; replace HO_7 := az (Kd.Xr zb53 hb); replace HO_13 := az (Kd.Xr zb51 hb); replace J6 := az (Xk (g := Md) (o := .cells #[.int .i64 ((Xa l0 (Zc)).f0), .int .i64 ((Xa l0 (Zc)).f1), .int .i64 ((Xa l0 (Zc)).f2), .int .i64 ((Xa l0 (Zc)).f3), .int .i64 ((Xa l0 (Zc)).f4), .int .i64 ((Xa l0 (Zc)).f5), .int .i64 ((Xa l0 (Zc)).f6), .int .i64 ((Xa l0 (Zc)).f7)] 76 (0, 0)) zb63 hb); replace HB := az (Xc zb1 hb); (try clear hb); (try clear hb2); (try clear hk); (try clear hi)))
         go_roundg k1
         case measure => have := HK1.out; omega
         case rel => exact ⟨(J5), (wrap64 (Zo + 1)), zb5, H', ⟨zb33⟩, ⟨zb27⟩, ⟨zb32⟩, ⟨zb1⟩⟩
       ·rw [if_neg c12] at H
        exact absurd H (by simp)
      ·rw [if_neg c11] at H
       exact absurd H (by simp)
     ·rw [if_neg c9] at H
      exact absurd H (by simp)
    ·rw [if_neg c8] at H
     exact absurd H (by simp)
   ·rw [if_neg c7] at H
    have c7b0 : decide (Zo < (Zz.length : Int)) = false := decide_eq_false c7; clear c7; obtain rfl := Option.some.inj H; obtain ⟨A7, c7, eo7⟩ := Kd.Y2 HO_7.out; subst eo7; have HL := az hlen; clear hlen; have HP := az (Un J5)
    go_wp2_with fail
    refine (Tv w _ (fun _ => True) _ J5 HB.out (Kd.XZ HO_7.out (fun _ _ => trivial)) HL.out).mono ?_; rintro e w21 ⟨rfl, hr1, hb1⟩; have HR1 := az hr1; have HB1 := az hb1; clear hr1 hb1; have hl2 := az (show (J5.mergeSort leI).length ≤ 9223372036854775807 by have := HL.out; simp; omega); have hl3 := az (show (J5.mergeSort leI).length = J5.length by simp); rw [← hl3.out]
    go_wp2_with fail
    refine (NP w _ (fun _ => True) _ _ HB1.out HR1.out hl2.out).mono ?_; rintro e w22 ⟨A8, c8, rfl, hc8, hr2, hb2⟩; have HR2 := az hr2; have HB2 := az hb2; have HC8 := az hc8; clear hr2 hb2 hc8
    go_wp2_with fail
    refine (EG A8 _ c8 _ HC8.out (by have := HL.out; have := HP.out; unfold MR at this; exact Nat.le_trans this (by omega))).mono ?_; rintro e w23 ⟨rfl, rfl⟩
    go_wp2_with fail
    go_ret
    exact ⟨_, rfl, ⟨fun _ _ => trivial, A8, _, c8, rfl, Nat.le_refl _, HR2.out⟩, HB2.out⟩
set_option maxHeartbeats 8000000 in
set_option maxRecDepth 100000 in
theorem WE (Hs : S76 → Bool) (hH : ∀ (x : S76) (w : World), Calls Tryz.prog 107 #[PU x] w fun e w' => e = .returned (.bool (Hs x)) ∧ Below w.heap.size w w') (k : Nat) (A0 : Option Addr) (c0 : Nat) (l0 : List (S76)) (a1 : Int) (r : List Int) (w : World) (hr0 : Kd.C k76 w A0 l0.length l0) (hc0 : l0.length ≤ c0) (hlen : r.length < 4611686018427387904) (h : XG.f Hs k l0 a1 = some r) :
 Calls Tryz.prog 61 #[.slice A0 l0.length c0, .int .i64 a1, .func (Fn.func 107) #[] #[]] w fun e w' => ∃ v0_ : Value, e = .returned (v0_) ∧ Z (Kd.int .i64) 3 w' w.heap.size (fun _ => True) v0_ (MR r) ∧ Below w.heap.size w w' := by
 have hu76 := Tryz.underlying76; have HHs := az hH; clear hH; have HR0 := az hr0; have HC0 := az hc0; clear hr0 hc0; have HB := az (Below.refl w.heap.size w); have H : ((Ze.f k l0 a1).bind fun Zz => (XG.l0 Hs k l0 ([] : List Int) Zz (Zz.length : Int) 0)) = some r := h; clear h; replace H := Option.bind_eq_some_iff.mp H; obtain ⟨Zz, A40, H⟩ := H; replace H : (XG.l0 Hs k l0 ([] : List Int) Zz (Zz.length : Int) 0) = some r := H; have A4 := az A40; clear A40; have H' := az H; clear H
 go_enter Tryz.func61, Tryz.ntmps61
 go_wp2_with (first | ((with_reducible refine Xo (f := 91) rfl ?_); refine Yx (some 13) rfl rfl Tryz.func91 zb6 rfl #[.slice A0 l0.length c0, .int .i64 a1] rfl zb2 ?_; (with_reducible refine (Ze.calls k _ _ l0 a1 Zz _ ?side1 ?side2 A4.out).mono ?_); (case side1 => exact zb16); (case side2 => exact HC0.out); rintro e w5 ⟨v482, rfl, ho0, hb⟩; refine ⟨_, rfl, ?_⟩; have Xgb := az (Kd.YY ho0 (XA zb0)); replace HB := az (Xc zb0 hb); (try clear hb); (try clear hb2); (try clear hk); (try clear hi); (try clear ho0); obtain ⟨Ao6, co6, eo6⟩ := Kd.Y2 Xgb.out; subst eo6))
 go_loopg [7, 15] k (fun kq v7 v15 w' => ∃ (J5 : List Int) (Zo : Int), v15 = .int .i64 Zo ∧ Aside0 (XG.l0 Hs kq l0 J5 Zz (Zz.length : Int) Zo = some r) ∧ Aside0 (kq ≤ k) ∧ Aside0 (Kd.R (Kd.int .i64) 3 w' w.heap.size (fun k_ => some k_ ≠ ((.slice Ao6 Zz.length co6) : Value).ownBlock) v7 J5) ∧ Aside0 (Kd.R (Kd.int .i64) 3 w' w.heap.size (fun k_ => some k_ ≠ (v7 : Value).ownBlock) (.slice Ao6 Zz.length co6) Zz) ∧ Aside0 (Below w.heap.size w w'))
 case atStart => exact ⟨(([] : List Int)), (0), zb5, H', ⟨Nat.le_refl _⟩, ⟨zb44⟩, ⟨zb109⟩, ⟨zb0⟩⟩
 case round =>
  clear H'
  try clear p2
  try clear c6
  obtain ⟨J5, Zo, rfl, HA, HK1, HO_7, HO_13, HB⟩ := hrel
  cases gk with
  | zero => exact absurd HA.out (by simp [XG.l0])
  | succ k1 =>
   have H := HA.out; clear HA; simp only [XG.l0] at H
   by_cases c7 : Zo < (Zz.length : Int)
   ·rw [if_pos c7] at H
    have c7b0 : decide (Zo < (Zz.length : Int)) = true := decide_eq_true c7; clear c7
    by_cases c8 : 0 ≤ Zo
    ·rw [if_pos c8] at H
     have c8b0 : decide (0 ≤ Zo) = true := decide_eq_true c8; clear c8
     by_cases c9 : Zo < (Zz.length : Int)
     ·rw [if_pos c9] at H
      have c9b0 : decide (Zo < (Zz.length : Int)) = true := decide_eq_true c9; clear c9
      obtain ⟨Zc, RX⟩ : ∃ j_ : Int, (wrap64 ((rd Zz Zo) - 1)) = j_ := ⟨_, rfl⟩
      replace H : (if 0 ≤ (Zc) then (if (Zc) < (l0.length : Int) then ((some (Hs (Xa l0 (Zc)))).bind fun RU => (if RU = true then (if J5.length < 17592186044416 then (XG.l0 Hs k1 l0 (J5 ++ [(Xa l0 (Zc)).f2]) Zz (Zz.length : Int) (wrap64 (Zo + 1))) else (none)) else (XG.l0 Hs k1 l0 J5 Zz (Zz.length : Int) (wrap64 (Zo + 1))))) else (none)) else (none)) = some r := by first | (rw [RX] at H; exact H) | (simp only [RX] at H ⊢; exact H)
      have hji10w : (IntKind.i64.wrap ((rd Zz Zo) - 1)) = Zc := (Xz _).trans RX
      by_cases c11 : 0 ≤ (Zc)
      ·rw [if_pos c11] at H
       have XbL : decide (0 ≤ (Zc)) = true := decide_eq_true c11; clear c11
       by_cases c12 : (Zc) < (l0.length : Int)
       ·rw [if_pos c12] at H
        have Ph : decide ((Zc) < (l0.length : Int)) = true := decide_eq_true c12; clear c12; replace H := Option.bind_eq_some_iff.mp H; obtain ⟨RU, XbM, H⟩ := H; replace H : (if RU = true then (if J5.length < 17592186044416 then (XG.l0 Hs k1 l0 (J5 ++ [(Xa l0 (Zc)).f2]) Zz (Zz.length : Int) (wrap64 (Zo + 1))) else (none)) else (XG.l0 Hs k1 l0 J5 Zz (Zz.length : Int) (wrap64 (Zo + 1)))) = some r := H; have A13 := az XbM; clear XbM
        by_cases c14 : RU = true
        ·subst c14
         have H1 : (if J5.length < 17592186044416 then (XG.l0 Hs k1 l0 (J5 ++ [(Xa l0 (Zc)).f2]) Zz (Zz.length : Int) (wrap64 (Zo + 1))) else (none)) = some r := by rw [if_pos rfl] at H; exact H
         clear H; have H := H1; clear H1
         by_cases c15 : J5.length < 17592186044416
         ·rw [if_pos c15] at H
          have LMc15 := az c15; clear c15
          obtain ⟨Xl8, hy488⟩ : ∃ y_ : List Int, y_ = (J5 ++ [(Xa l0 (Zc)).f2]) := ⟨_, rfl⟩
          replace H : (XG.l0 Hs k1 l0 Xl8 Zz (Zz.length : Int) (wrap64 (Zo + 1))) = some r := by first | (rw [hy488]; with_reducible exact H) | (have H2_ := (Option.bind_some _ _).symm.trans H; rw [hy488]; with_reducible exact H2_) | (have H2_ := (Option.bind_some _ _).symm.trans H; with_reducible exact H2_) | with_reducible exact H | (rw [hy488]; exact H) | exact H
          have Ny488 := az hy488; clear hy488; have H' := az H; clear H; have Wm : 0 ≤ (Zo : Int) := of_decide_eq_true zb3; have Wn : Zo < (Zz.length : Int) := of_decide_eq_true zb3; obtain ⟨XbN, XdF, QP⟩ := Kd.Jn (Kd.X6 HO_13.out).2.2 Zo Wm Wn
          cases XdF
          replace Wm := eq_true Wm; replace Wn := eq_true Wn; have Wo : 0 ≤ ((Zc) : Int) := of_decide_eq_true zb3; have Wp : (Zc) < (l0.length : Int) := of_decide_eq_true zb3; obtain ⟨Xl9, XdG, D7, D8, D9, DC, DD, DF, DI, DJ⟩ := Ym HR0.out (Zc) Wo Wp
          cases XdG
          replace D7 := cb HB D7; replace D8 := cb HB D8; replace D9 := cb HB D9; replace DC := cb HB DC; replace DD := cb HB DD; replace DF := cb HB DF; replace DI := cb HB DI; replace DJ := cb HB DJ; replace Wo := eq_true Wo; replace Wp := eq_true Wp
          go_wp2_with (first | ((with_reducible refine Xp (N := 10) rfl ?_); refine Xn ?hg (N := 10) ?hd (cs := #[.int .i64 0, .int .i64 0, .int .i64 0, .int .i64 0, .int .i64 0, .int .i64 0, .int .i64 0, .int .i64 0]) (t := 76) ?hr ?_; (case hd => rfl); (case hg => rfl); (case hr => exact zb7); intro Md hg w16 hbox hb; replace HO_7 := az (Kd.Xr zb27 hb); replace HO_13 := az (Kd.Xr zb32 hb); have J6 := az (hbox); have RY := az ((zb95 : w.heap.size ≤ Md)); have XlA := RY; replace HB := az (Xc zb0 hb); clear hb hbox hg; obtain ⟨QQ, QR, QS, Xgc, Xgd, Xn7, Xn8, Xn9⟩ := cz8 J6; obtain ⟨QT, QU, QV, Xge, Xgf, XnA, XnB⟩ := fz7 J6; have XnC := Xe J6.out 7) | (go_at_call 107; refine (HHs.out (Xa l0 Zc) _).mono ?_; rintro e w18 ⟨rfl, hb⟩; rw [Option.some.inj A13.out]; replace HO_7 := az (Kd.Xr zb53 hb); replace HO_13 := az (Kd.Xr zb51 hb); replace J6 := az (Xk (g := Md) (o := .cells #[.int .i64 ((Xa l0 (Zc)).f0), .int .i64 ((Xa l0 (Zc)).f1), .int .i64 ((Xa l0 (Zc)).f2), .int .i64 ((Xa l0 (Zc)).f3), .int .i64 ((Xa l0 (Zc)).f4), .int .i64 ((Xa l0 (Zc)).f5), .int .i64 ((Xa l0 (Zc)).f6), .int .i64 ((Xa l0 (Zc)).f7)] 76 (0, 0)) zb63 hb); replace HB := az (Xc zb1 hb); (try clear hb); (try clear hb2); (try clear hk); (try clear hi); obtain ⟨TQ, TR, TS, Xgg, Xgh, Xgi, Xgj, Xgk⟩ := cz8 J6; obtain ⟨TT, TU, TV, Xgl, Xgm, Xgn, Xgo⟩ := fz7 J6; have Xgp := Xe J6.out 7) | ((with_reducible refine Z0 (b := .append) (xs := #[.tmp 27, .tmp 30]) rfl ?_); at_builtin; refine Kd.VV (Kd.int .i64) (w0 := w) w.heap.size rfl (.tmp 27) (.tmp 30) 37 3 (.int .i64 0) 8 rfl Tryz.underlying37 info3 rfl (by decide) (by omega) u7 J5 ((Xa l0 (Zc)).f2) [.int .i64 ((Xa l0 (Zc)).f2)] (fun k_ => some k_ ≠ (.slice (some XbN) Zz.length co6 : Value).ownBlock) (fun _ => False) rfl rfl ?aP (fun _ hk => hk.elim) ?aF ?aO ?aB ?aS ?aL ?_; (case aP => exact rfl); (case aB => exact zb1); (case aF => exact (fun k_ hk => Kd.fresh' (Kd.N7 zb32) k_ hk)); (case aO => exact zb27); (case aS => exact (XA zb1)); (case aL => have := LMc15.out; omega); intro v489 w20 ho hb hg hat; rw [← Ny488.out] at ho; replace HO_13 := az (Kd.Kg (ok := (fun _ => True)) zb88 hg hat); replace J6 := az (JQ (g := Md) (o := .cells #[.int .i64 ((Xa l0 (Zc)).f0), .int .i64 ((Xa l0 (Zc)).f1), .int .i64 ((Xa l0 (Zc)).f2), .int .i64 ((Xa l0 (Zc)).f3), .int .i64 ((Xa l0 (Zc)).f4), .int .i64 ((Xa l0 (Zc)).f5), .int .i64 ((Xa l0 (Zc)).f6), .int .i64 ((Xa l0 (Zc)).f7)] 76 (0, 0)) (by (with_reducible repeat (first | apply bn | apply bd | apply ba)); exact J6.out) hg (Kd.O4 HO_7.out J6.out (by decide))); replace HB := az (hb); have XlB := az (ho); clear HO_7; clear ho hb hg hat))
          go_roundg k1
          case measure => have := HK1.out; omega
          case rel => exact ⟨(Xl8), (wrap64 (Zo + 1)), zb5, H', ⟨zb33⟩, ⟨by (with_reducible repeat (first | apply Kd.Yp | apply Kd.Y0 | apply Kd.YC)); exact XlB.out⟩, ⟨zb91⟩, ⟨zb1⟩⟩
         ·rw [if_neg c15] at H
          exact absurd H (by simp)
        ·replace c14 := Bool.eq_false_iff.mpr c14
         subst c14
         have H1 : (XG.l0 Hs k1 l0 J5 Zz (Zz.length : Int) (wrap64 (Zo + 1))) = some r := by rw [if_neg (show ¬ (false = true) by decide)] at H; exact H
         clear H; have H := H1; clear H1; have H' := az H; clear H; have Wm : 0 ≤ (Zo : Int) := of_decide_eq_true zb3; have Wn : Zo < (Zz.length : Int) := of_decide_eq_true zb3; obtain ⟨XbN, XdF, QP⟩ := Kd.Jn (Kd.X6 HO_13.out).2.2 Zo Wm Wn
         cases XdF
         replace Wm := eq_true Wm; replace Wn := eq_true Wn; have Wo : 0 ≤ ((Zc) : Int) := of_decide_eq_true zb3; have Wp : (Zc) < (l0.length : Int) := of_decide_eq_true zb3; obtain ⟨Xl9, XdG, D7, D8, D9, DC, DD, DF, DI, DJ⟩ := Ym HR0.out (Zc) Wo Wp
         cases XdG
         replace D7 := cb HB D7; replace D8 := cb HB D8; replace D9 := cb HB D9; replace DC := cb HB DC; replace DD := cb HB DD; replace DF := cb HB DF; replace DI := cb HB DI; replace DJ := cb HB DJ; replace Wo := eq_true Wo; replace Wp := eq_true Wp
         go_wp2_with (first | ((with_reducible refine Xp (N := 10) rfl ?_); refine Xn ?hg (N := 10) ?hd (cs := #[.int .i64 0, .int .i64 0, .int .i64 0, .int .i64 0, .int .i64 0, .int .i64 0, .int .i64 0, .int .i64 0]) (t := 76) ?hr ?_; (case hd => rfl); (case hg => rfl); (case hr => exact zb7); intro Md hg w21 hbox hb; replace HO_7 := az (Kd.Xr zb27 hb); replace HO_13 := az (Kd.Xr zb32 hb); have J6 := az (hbox); have RY := az ((zb95 : w.heap.size ≤ Md)); have XlA := RY; replace HB := az (Xc zb0 hb); clear hb hbox hg; obtain ⟨Xgq, Xgr, Xgs, Xgt, Xgu, XnD, XnE, XnF⟩ := cz8 J6; obtain ⟨Xgv, Xgw, Xgx, Xgy, Xgz, XnG, XnH⟩ := fz7 J6; have XnI := Xe J6.out 7) | (go_at_call 107; refine (HHs.out (Xa l0 Zc) _).mono ?_; rintro e w23 ⟨rfl, hb⟩; rw [Option.some.inj A13.out]; replace HO_7 := az (Kd.Xr zb53 hb); replace HO_13 := az (Kd.Xr zb51 hb); replace J6 := az (Xk (g := Md) (o := .cells #[.int .i64 ((Xa l0 (Zc)).f0), .int .i64 ((Xa l0 (Zc)).f1), .int .i64 ((Xa l0 (Zc)).f2), .int .i64 ((Xa l0 (Zc)).f3), .int .i64 ((Xa l0 (Zc)).f4), .int .i64 ((Xa l0 (Zc)).f5), .int .i64 ((Xa l0 (Zc)).f6), .int .i64 ((Xa l0 (Zc)).f7)] 76 (0, 0)) zb63 hb); replace HB := az (Xc zb1 hb); (try clear hb); (try clear hb2); (try clear hk); (try clear hi)))
         go_roundg k1
         case measure => have := HK1.out; omega
         case rel => exact ⟨(J5), (wrap64 (Zo + 1)), zb5, H', ⟨zb33⟩, ⟨zb27⟩, ⟨zb32⟩, ⟨zb1⟩⟩
       ·rw [if_neg c12] at H
        exact absurd H (by simp)
      ·rw [if_neg c11] at H
       exact absurd H (by simp)
     ·rw [if_neg c9] at H
      exact absurd H (by simp)
    ·rw [if_neg c8] at H
     exact absurd H (by simp)
   ·rw [if_neg c7] at H
    have c7b0 : decide (Zo < (Zz.length : Int)) = false := decide_eq_false c7; clear c7; obtain rfl := Option.some.inj H; obtain ⟨A7, c7, eo7⟩ := Kd.Y2 HO_7.out; subst eo7; have HL := az hlen; clear hlen; have HP := az (Un J5)
    go_wp2_with fail
    refine (Tv w _ (fun _ => True) _ J5 HB.out (Kd.XZ HO_7.out (fun _ _ => trivial)) HL.out).mono ?_; rintro e w21 ⟨rfl, hr1, hb1⟩; have HR1 := az hr1; have HB1 := az hb1; clear hr1 hb1; have hl2 := az (show (J5.mergeSort leI).length ≤ 9223372036854775807 by have := HL.out; simp; omega); have hl3 := az (show (J5.mergeSort leI).length = J5.length by simp); rw [← hl3.out]
    go_wp2_with fail
    refine (NP w _ (fun _ => True) _ _ HB1.out HR1.out hl2.out).mono ?_; rintro e w22 ⟨A8, c8, rfl, hc8, hr2, hb2⟩; have HR2 := az hr2; have HB2 := az hb2; have HC8 := az hc8; clear hr2 hb2 hc8
    go_wp2_with fail
    refine (EG A8 _ c8 _ HC8.out (by have := HL.out; have := HP.out; unfold MR at this; exact Nat.le_trans this (by omega))).mono ?_; rintro e w23 ⟨rfl, rfl⟩
    go_wp2_with fail
    go_ret
    exact ⟨_, rfl, ⟨fun _ _ => trivial, A8, _, c8, rfl, Nat.le_refl _, HR2.out⟩, HB2.out⟩
end Go.Proofs.YtphnphmbfogmlaaGreat.Pr
