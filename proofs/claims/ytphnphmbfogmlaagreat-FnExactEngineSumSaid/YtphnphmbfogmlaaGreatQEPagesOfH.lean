import Derived.Test.YtphnphmbfogmlaaGreatQEByq
import Derived.Test.YtphnphmbfogmlaaGreatQESx
import Derived.Test.YtphnphmbfogmlaaGreatQELast
import Derived.Test.YtphnphmbfogmlaaGreatQEPgTail
import Derived.Test.YtphnphmbfogmlaaGreatQEPrLC2
namespace Go.Proofs.YtphnphmbfogmlaaGreat.Pr
open Go.RowKit Go.PW Go.PL Go.PM Go.Proofs.YtphnphmbfogmlaaGreat.T Go.Sort
attribute [local go_sem] YO YP Zm Zn Yv Yw YQ YS
set_option linter.unusedVariables false
set_option linter.unusedSimpArgs false
def XR.l0 (Hs : S76 → Bool) : Nat → List (S76) → List Int → List Int → Int → Int → Option (List Int)
 | 0, _, _, _, _, _ => none
 | k + 1, x0, x7, x13, x14, x15 => if x15 < x14 then (if 0 ≤ x15 then (if x15 < (x13.length : Int) then (if 0 ≤ (wrap64 ((rd x13 x15) - 1)) then (if (wrap64 ((rd x13 x15) - 1)) < (x0.length : Int) then ((some (Hs (Xa x0 (wrap64 ((rd x13 x15) - 1))))).bind fun OP => (if OP = true then (if x7.length < 17592186044416 then (XR.l0 Hs k x0 (x7 ++ [(Xa x0 (wrap64 ((rd x13 x15) - 1))).f2]) x13 x14 (wrap64 (x15 + 1))) else (none)) else (XR.l0 Hs k x0 x7 x13 x14 (wrap64 (x15 + 1))))) else (none)) else (none)) else (none)) else (none)) else (some x7)
def XR.f (Hs : S76 → Bool) (k : Nat) (l0 : List (S76)) (a1 : Int) : Option (List Int) := (Zv.f k l0 a1).bind fun ZO => (XR.l0 Hs k l0 ([] : List Int) ZO (ZO.length : Int) 0)
set_option maxHeartbeats 8000000 in
set_option maxRecDepth 100000 in
theorem CP (Hs : S76 → Bool) (hH : ∀ (x : S76) (w : World), Calls Tryz.prog 62 #[RZ x] w fun e w' => e = .returned (.bool (Hs x)) ∧ Below w.heap.size w w') (k : Nat) (A0 : Option Addr) (c0 : Nat) (l0 : List (S76)) (a1 : Int) (r : List Int) (w : World) (hr0 : Kd.C k76 w A0 l0.length l0) (hc0 : l0.length ≤ c0) (hlen : r.length < 4611686018427387904) (h : XR.f Hs k l0 a1 = some r) :
 Calls Tryz.prog 61 #[.slice A0 l0.length c0, .int .i64 a1, .func (Fn.func 62) #[] #[]] w fun e w' => ∃ v0_ : Value, e = .returned (v0_) ∧ Z (Kd.int .i64) 3 w' w.heap.size (fun _ => True) v0_ (Wx r) ∧ Below w.heap.size w w' := by
 have hu76 := Tryz.underlying76; have HHs := az hH; clear hH; have HR0 := az hr0; have HC0 := az hc0; clear hr0 hc0; have HB := az (Below.refl w.heap.size w); have H : ((Zv.f k l0 a1).bind fun ZO => (XR.l0 Hs k l0 ([] : List Int) ZO (ZO.length : Int) 0)) = some r := h; clear h; replace H := Option.bind_eq_some_iff.mp H; obtain ⟨ZO, A40, H⟩ := H; replace H : (XR.l0 Hs k l0 ([] : List Int) ZO (ZO.length : Int) 0) = some r := H; have A4 := az A40; clear A40; have H' := az H; clear H
 go_enter Tryz.func61, Tryz.ntmps61
 go_wp2_with (first | ((with_reducible refine Xi (f := 91) rfl ?_); refine XI (some 13) rfl rfl Tryz.func91 zb9 rfl #[.slice A0 l0.length c0, .int .i64 a1] rfl zb2 ?_; (with_reducible refine (Zv.calls k _ _ l0 a1 ZO _ ?side1 ?side2 A4.out).mono ?_); (case side1 => exact zb16); (case side2 => exact HC0.out); rintro e w5 ⟨v482, rfl, ho0, hb⟩; refine ⟨_, rfl, ?_⟩; have Xjy := az (Kd.Zh ho0 (Xv zb1)); replace HB := az (Xc zb1 hb); (try clear hb); (try clear hb2); (try clear hk); (try clear hi); (try clear ho0); obtain ⟨Ao6, co6, eo6⟩ := Kd.YZ Xjy.out; subst eo6))
 go_loopg [7, 15] k (fun kq v7 v15 w' => ∃ (JO : List Int) (ZA : Int), v15 = .int .i64 ZA ∧ Aside0 (XR.l0 Hs kq l0 JO ZO (ZO.length : Int) ZA = some r) ∧ Aside0 (kq ≤ k) ∧ Aside0 (Kd.R (Kd.int .i64) 3 w' w.heap.size (fun k_ => some k_ ≠ ((.slice Ao6 ZO.length co6) : Value).ownBlock) v7 JO) ∧ Aside0 (Kd.R (Kd.int .i64) 3 w' w.heap.size (fun k_ => some k_ ≠ (v7 : Value).ownBlock) (.slice Ao6 ZO.length co6) ZO) ∧ Aside0 (Below w.heap.size w w'))
 case atStart => exact ⟨(([] : List Int)), (0), zb6, H', ⟨Nat.le_refl _⟩, ⟨zb54⟩, ⟨zb144⟩, ⟨zb1⟩⟩
 case round =>
  clear H'
  try clear p2
  try clear c6
  obtain ⟨JO, ZA, rfl, HA, HK1, HO_7, HO_13, HB⟩ := hrel
  cases gk with
  | zero => exact absurd HA.out (by simp [XR.l0])
  | succ k1 =>
   have H := HA.out; clear HA; simp only [XR.l0] at H
   by_cases c7 : ZA < (ZO.length : Int)
   ·rw [if_pos c7] at H
    have c7b0 : decide (ZA < (ZO.length : Int)) = true := decide_eq_true c7; clear c7
    by_cases c8 : 0 ≤ ZA
    ·rw [if_pos c8] at H
     have c8b0 : decide (0 ≤ ZA) = true := decide_eq_true c8; clear c8
     by_cases c9 : ZA < (ZO.length : Int)
     ·rw [if_pos c9] at H
      have c9b0 : decide (ZA < (ZO.length : Int)) = true := decide_eq_true c9; clear c9
      obtain ⟨Zr, OQ⟩ : ∃ j_ : Int, (wrap64 ((rd ZO ZA) - 1)) = j_ := ⟨_, rfl⟩
      replace H : (if 0 ≤ (Zr) then (if (Zr) < (l0.length : Int) then ((some (Hs (Xa l0 (Zr)))).bind fun OP => (if OP = true then (if JO.length < 17592186044416 then (XR.l0 Hs k1 l0 (JO ++ [(Xa l0 (Zr)).f2]) ZO (ZO.length : Int) (wrap64 (ZA + 1))) else (none)) else (XR.l0 Hs k1 l0 JO ZO (ZO.length : Int) (wrap64 (ZA + 1))))) else (none)) else (none)) = some r := by first | (rw [OQ] at H; exact H) | (simp only [OQ] at H ⊢; exact H)
      have hji10w : (IntKind.i64.wrap ((rd ZO ZA) - 1)) = Zr := (X9 _).trans OQ
      by_cases c11 : 0 ≤ (Zr)
      ·rw [if_pos c11] at H
       have OT : decide (0 ≤ (Zr)) = true := decide_eq_true c11; clear c11
       by_cases c12 : (Zr) < (l0.length : Int)
       ·rw [if_pos c12] at H
        have WQ : decide ((Zr) < (l0.length : Int)) = true := decide_eq_true c12; clear c12; replace H := Option.bind_eq_some_iff.mp H; obtain ⟨OP, OU, H⟩ := H; replace H : (if OP = true then (if JO.length < 17592186044416 then (XR.l0 Hs k1 l0 (JO ++ [(Xa l0 (Zr)).f2]) ZO (ZO.length : Int) (wrap64 (ZA + 1))) else (none)) else (XR.l0 Hs k1 l0 JO ZO (ZO.length : Int) (wrap64 (ZA + 1)))) = some r := H; have A13 := az OU; clear OU
        by_cases c14 : OP = true
        ·subst c14
         have H1 : (if JO.length < 17592186044416 then (XR.l0 Hs k1 l0 (JO ++ [(Xa l0 (Zr)).f2]) ZO (ZO.length : Int) (wrap64 (ZA + 1))) else (none)) = some r := by rw [if_pos rfl] at H; exact H
         clear H; have H := H1; clear H1
         by_cases c15 : JO.length < 17592186044416
         ·rw [if_pos c15] at H
          have LMc15 := az c15; clear c15
          obtain ⟨XpC, hy488⟩ : ∃ y_ : List Int, y_ = (JO ++ [(Xa l0 (Zr)).f2]) := ⟨_, rfl⟩
          replace H : (XR.l0 Hs k1 l0 XpC ZO (ZO.length : Int) (wrap64 (ZA + 1))) = some r := by first | (rw [hy488]; with_reducible exact H) | (have H2_ := (Option.bind_some _ _).symm.trans H; rw [hy488]; with_reducible exact H2_) | (have H2_ := (Option.bind_some _ _).symm.trans H; with_reducible exact H2_) | with_reducible exact H | (rw [hy488]; exact H) | exact H
          have Ny488 := az hy488; clear hy488; have H' := az H; clear H; have L6 : 0 ≤ (ZA : Int) := of_decide_eq_true zb3; have L8 : ZA < (ZO.length : Int) := of_decide_eq_true zb3; obtain ⟨Xfh, Xhn, Xc8⟩ := Kd.Jh (Kd.XN HO_13.out).2.2 ZA L6 L8
          cases Xhn
          replace L6 := eq_true L6; replace L8 := eq_true L8; have L9 : 0 ≤ ((Zr) : Int) := of_decide_eq_true zb3; have LA : (Zr) < (l0.length : Int) := of_decide_eq_true zb3; obtain ⟨XpD, Xho, FE, FH, FI, FJ, FL, FM, FN, FO⟩ := Yt HR0.out (Zr) L9 LA
          cases Xho
          replace FE := cb HB FE; replace FH := cb HB FH; replace FI := cb HB FI; replace FJ := cb HB FJ; replace FL := cb HB FL; replace FM := cb HB FM; replace FN := cb HB FN; replace FO := cb HB FO; replace L9 := eq_true L9; replace LA := eq_true LA
          go_wp2_with (first | ((with_reducible refine Xn (N := 10) rfl ?_); refine Xl ?hg (N := 10) ?hd (cs := #[.int .i64 0, .int .i64 0, .int .i64 0, .int .i64 0, .int .i64 0, .int .i64 0, .int .i64 0, .int .i64 0]) (t := 76) ?hr ?_; (case hd => rfl); (case hg => rfl); (case hr => exact zb10); intro Sb hg w16 hbox hb; replace HO_7 := az (Kd.X3 zb26 hb); replace HO_13 := az (Kd.X3 zb35 hb); have JP := az (hbox); have OV := az ((zb129 : w.heap.size ≤ Sb)); have XpE := OV; replace HB := az (Xc zb1 hb); clear hb hbox hg; obtain ⟨Kg, Kh, Ki, TF, TG, XrQ, XrR, XrS⟩ := cz8 JP; obtain ⟨Kj, Kk, Kl, TH, TI, XrT, XrU⟩ := fz7 JP; have XrV := Xd JP.out 7) | (go_at_call 62; refine (HHs.out (Xa l0 Zr) _).mono ?_; rintro e w18 ⟨rfl, hb⟩; rw [Option.some.inj A13.out]; replace HO_7 := az (Kd.X3 zb69 hb); replace HO_13 := az (Kd.X3 zb67 hb); replace JP := az (XC (g := Sb) (o := .cells #[.int .i64 ((Xa l0 (Zr)).f0), .int .i64 ((Xa l0 (Zr)).f1), .int .i64 ((Xa l0 (Zr)).f2), .int .i64 ((Xa l0 (Zr)).f3), .int .i64 ((Xa l0 (Zr)).f4), .int .i64 ((Xa l0 (Zr)).f5), .int .i64 ((Xa l0 (Zr)).f6), .int .i64 ((Xa l0 (Zr)).f7)] 76 (0, 0)) zb85 hb); replace HB := az (Xc zb0 hb); (try clear hb); (try clear hb2); (try clear hk); (try clear hi); obtain ⟨Gp, Gq, Gr, Km, Kn, Xjz, Xj0, Xj1⟩ := cz8 JP; obtain ⟨Gs, Gt, Gu, Ko, Kq, Xj2, Xj3⟩ := fz7 JP; have Xj4 := Xd JP.out 7) | ((with_reducible refine JV (b := .append) (xs := #[.tmp 27, .tmp 30]) rfl ?_); at_builtin; refine Kd.Sv (Kd.int .i64) (w0 := w) w.heap.size rfl (.tmp 27) (.tmp 30) 37 3 (.int .i64 0) 8 rfl Tryz.underlying37 info3 rfl (by decide) (by omega) u7 JO ((Xa l0 (Zr)).f2) [.int .i64 ((Xa l0 (Zr)).f2)] (fun k_ => some k_ ≠ (.slice (some Xfh) ZO.length co6 : Value).ownBlock) (fun _ => False) rfl rfl ?aP (fun _ hk => hk.elim) ?aF ?aO ?aB ?aS ?aL ?_; (case aP => exact rfl); (case aB => exact zb0); (case aF => exact (fun k_ hk => Kd.fresh' (Kd.Ur zb35) k_ hk)); (case aO => exact zb26); (case aS => exact (Xv zb0)); (case aL => have := LMc15.out; omega); intro v489 w20 ho hb hg hat; rw [← Ny488.out] at ho; replace HO_13 := az (Kd.Ch (ok := (fun _ => True)) zb114 hg hat); replace JP := az (Gn (g := Sb) (o := .cells #[.int .i64 ((Xa l0 (Zr)).f0), .int .i64 ((Xa l0 (Zr)).f1), .int .i64 ((Xa l0 (Zr)).f2), .int .i64 ((Xa l0 (Zr)).f3), .int .i64 ((Xa l0 (Zr)).f4), .int .i64 ((Xa l0 (Zr)).f5), .int .i64 ((Xa l0 (Zr)).f6), .int .i64 ((Xa l0 (Zr)).f7)] 76 (0, 0)) (by (with_reducible repeat (first | apply bn | apply bd | apply ba)); exact JP.out) hg (Kd.Xrl HO_7.out JP.out (by decide))); replace HB := az (hb); have XpF := az (ho); clear HO_7; clear ho hb hg hat))
          go_roundg k1
          case measure => have := HK1.out; omega
          case rel => exact ⟨(XpC), (wrap64 (ZA + 1)), zb6, H', ⟨zb37⟩, ⟨by (with_reducible repeat (first | apply Kd.XU | apply Kd.XX | apply Kd.Yj)); exact XpF.out⟩, ⟨zb119⟩, ⟨zb0⟩⟩
         ·rw [if_neg c15] at H
          exact absurd H (by simp)
        ·replace c14 := Bool.eq_false_iff.mpr c14
         subst c14
         have H1 : (XR.l0 Hs k1 l0 JO ZO (ZO.length : Int) (wrap64 (ZA + 1))) = some r := by rw [if_neg (show ¬ (false = true) by decide)] at H; exact H
         clear H; have H := H1; clear H1; have H' := az H; clear H; have L6 : 0 ≤ (ZA : Int) := of_decide_eq_true zb3; have L8 : ZA < (ZO.length : Int) := of_decide_eq_true zb3; obtain ⟨Xfh, Xhn, Xc8⟩ := Kd.Jh (Kd.XN HO_13.out).2.2 ZA L6 L8
         cases Xhn
         replace L6 := eq_true L6; replace L8 := eq_true L8; have L9 : 0 ≤ ((Zr) : Int) := of_decide_eq_true zb3; have LA : (Zr) < (l0.length : Int) := of_decide_eq_true zb3; obtain ⟨XpD, Xho, FE, FH, FI, FJ, FL, FM, FN, FO⟩ := Yt HR0.out (Zr) L9 LA
         cases Xho
         replace FE := cb HB FE; replace FH := cb HB FH; replace FI := cb HB FI; replace FJ := cb HB FJ; replace FL := cb HB FL; replace FM := cb HB FM; replace FN := cb HB FN; replace FO := cb HB FO; replace L9 := eq_true L9; replace LA := eq_true LA
         go_wp2_with (first | ((with_reducible refine Xn (N := 10) rfl ?_); refine Xl ?hg (N := 10) ?hd (cs := #[.int .i64 0, .int .i64 0, .int .i64 0, .int .i64 0, .int .i64 0, .int .i64 0, .int .i64 0, .int .i64 0]) (t := 76) ?hr ?_; (case hd => rfl); (case hg => rfl); (case hr => exact zb10); intro Sb hg w21 hbox hb; replace HO_7 := az (Kd.X3 zb26 hb); replace HO_13 := az (Kd.X3 zb35 hb); have JP := az (hbox); have OV := az ((zb129 : w.heap.size ≤ Sb)); have XpE := OV; replace HB := az (Xc zb1 hb); clear hb hbox hg; obtain ⟨TJ, TK, TL, TM, TN, XrW, XrX, XrY⟩ := cz8 JP; obtain ⟨TP, TQ, TR, TS, TT, XrZ, Xsa⟩ := fz7 JP; have Xsb := Xd JP.out 7) | (go_at_call 62; refine (HHs.out (Xa l0 Zr) _).mono ?_; rintro e w23 ⟨rfl, hb⟩; rw [Option.some.inj A13.out]; replace HO_7 := az (Kd.X3 zb69 hb); replace HO_13 := az (Kd.X3 zb67 hb); replace JP := az (XC (g := Sb) (o := .cells #[.int .i64 ((Xa l0 (Zr)).f0), .int .i64 ((Xa l0 (Zr)).f1), .int .i64 ((Xa l0 (Zr)).f2), .int .i64 ((Xa l0 (Zr)).f3), .int .i64 ((Xa l0 (Zr)).f4), .int .i64 ((Xa l0 (Zr)).f5), .int .i64 ((Xa l0 (Zr)).f6), .int .i64 ((Xa l0 (Zr)).f7)] 76 (0, 0)) zb85 hb); replace HB := az (Xc zb0 hb); (try clear hb); (try clear hb2); (try clear hk); (try clear hi)))
         go_roundg k1
         case measure => have := HK1.out; omega
         case rel => exact ⟨(JO), (wrap64 (ZA + 1)), zb6, H', ⟨zb37⟩, ⟨zb26⟩, ⟨zb35⟩, ⟨zb0⟩⟩
       ·rw [if_neg c12] at H
        exact absurd H (by simp)
      ·rw [if_neg c11] at H
       exact absurd H (by simp)
     ·rw [if_neg c9] at H
      exact absurd H (by simp)
    ·rw [if_neg c8] at H
     exact absurd H (by simp)
   ·rw [if_neg c7] at H
    have c7b0 : decide (ZA < (ZO.length : Int)) = false := decide_eq_false c7; clear c7; obtain rfl := Option.some.inj H; obtain ⟨A7, c7, eo7⟩ := Kd.YZ HO_7.out; subst eo7; have HL := az hlen; clear hlen; have HP := az (ME JO)
    go_wp2_with fail
    refine (Ez w _ (fun _ => True) _ JO HB.out (Kd.Yz HO_7.out (fun _ _ => trivial)) HL.out).mono ?_; rintro e w21 ⟨rfl, hr1, hb1⟩; have HR1 := az hr1; have HB1 := az hb1; clear hr1 hb1; have hl2 := az (show (JO.mergeSort leI).length ≤ 9223372036854775807 by have := HL.out; simp; omega); have hl3 := az (show (JO.mergeSort leI).length = JO.length by simp); rw [← hl3.out]
    go_wp2_with fail
    refine (PY w _ (fun _ => True) _ _ HB1.out HR1.out hl2.out).mono ?_; rintro e w22 ⟨A8, c8, rfl, hc8, hr2, hb2⟩; have HR2 := az hr2; have HB2 := az hb2; have HC8 := az hc8; clear hr2 hb2 hc8
    go_wp2_with fail
    refine (QN A8 _ c8 _ HC8.out (by have := HL.out; have := HP.out; unfold Wx at this; exact Nat.le_trans this (by omega))).mono ?_; rintro e w23 ⟨rfl, rfl⟩
    go_wp2_with fail
    go_ret
    exact ⟨_, rfl, ⟨fun _ _ => trivial, A8, _, c8, rfl, Nat.le_refl _, HR2.out⟩, HB2.out⟩
set_option maxHeartbeats 8000000 in
set_option maxRecDepth 100000 in
theorem LZ (Hs : S76 → Bool) (hH : ∀ (x : S76) (w : World), Calls Tryz.prog 107 #[RZ x] w fun e w' => e = .returned (.bool (Hs x)) ∧ Below w.heap.size w w') (k : Nat) (A0 : Option Addr) (c0 : Nat) (l0 : List (S76)) (a1 : Int) (r : List Int) (w : World) (hr0 : Kd.C k76 w A0 l0.length l0) (hc0 : l0.length ≤ c0) (hlen : r.length < 4611686018427387904) (h : XR.f Hs k l0 a1 = some r) :
 Calls Tryz.prog 61 #[.slice A0 l0.length c0, .int .i64 a1, .func (Fn.func 107) #[] #[]] w fun e w' => ∃ v0_ : Value, e = .returned (v0_) ∧ Z (Kd.int .i64) 3 w' w.heap.size (fun _ => True) v0_ (Wx r) ∧ Below w.heap.size w w' := by
 have hu76 := Tryz.underlying76; have HHs := az hH; clear hH; have HR0 := az hr0; have HC0 := az hc0; clear hr0 hc0; have HB := az (Below.refl w.heap.size w); have H : ((Zv.f k l0 a1).bind fun ZO => (XR.l0 Hs k l0 ([] : List Int) ZO (ZO.length : Int) 0)) = some r := h; clear h; replace H := Option.bind_eq_some_iff.mp H; obtain ⟨ZO, A40, H⟩ := H; replace H : (XR.l0 Hs k l0 ([] : List Int) ZO (ZO.length : Int) 0) = some r := H; have A4 := az A40; clear A40; have H' := az H; clear H
 go_enter Tryz.func61, Tryz.ntmps61
 go_wp2_with (first | ((with_reducible refine Xi (f := 91) rfl ?_); refine XI (some 13) rfl rfl Tryz.func91 zb9 rfl #[.slice A0 l0.length c0, .int .i64 a1] rfl zb2 ?_; (with_reducible refine (Zv.calls k _ _ l0 a1 ZO _ ?side1 ?side2 A4.out).mono ?_); (case side1 => exact zb16); (case side2 => exact HC0.out); rintro e w5 ⟨v482, rfl, ho0, hb⟩; refine ⟨_, rfl, ?_⟩; have Xjy := az (Kd.Zh ho0 (Xv zb1)); replace HB := az (Xc zb1 hb); (try clear hb); (try clear hb2); (try clear hk); (try clear hi); (try clear ho0); obtain ⟨Ao6, co6, eo6⟩ := Kd.YZ Xjy.out; subst eo6))
 go_loopg [7, 15] k (fun kq v7 v15 w' => ∃ (JO : List Int) (ZA : Int), v15 = .int .i64 ZA ∧ Aside0 (XR.l0 Hs kq l0 JO ZO (ZO.length : Int) ZA = some r) ∧ Aside0 (kq ≤ k) ∧ Aside0 (Kd.R (Kd.int .i64) 3 w' w.heap.size (fun k_ => some k_ ≠ ((.slice Ao6 ZO.length co6) : Value).ownBlock) v7 JO) ∧ Aside0 (Kd.R (Kd.int .i64) 3 w' w.heap.size (fun k_ => some k_ ≠ (v7 : Value).ownBlock) (.slice Ao6 ZO.length co6) ZO) ∧ Aside0 (Below w.heap.size w w'))
 case atStart => exact ⟨(([] : List Int)), (0), zb6, H', ⟨Nat.le_refl _⟩, ⟨zb54⟩, ⟨zb144⟩, ⟨zb1⟩⟩
 case round =>
  clear H'
  try clear p2
  try clear c6
  obtain ⟨JO, ZA, rfl, HA, HK1, HO_7, HO_13, HB⟩ := hrel
  cases gk with
  | zero => exact absurd HA.out (by simp [XR.l0])
  | succ k1 =>
   have H := HA.out; clear HA; simp only [XR.l0] at H
   by_cases c7 : ZA < (ZO.length : Int)
   ·rw [if_pos c7] at H
    have c7b0 : decide (ZA < (ZO.length : Int)) = true := decide_eq_true c7; clear c7
    by_cases c8 : 0 ≤ ZA
    ·rw [if_pos c8] at H
     have c8b0 : decide (0 ≤ ZA) = true := decide_eq_true c8; clear c8
     by_cases c9 : ZA < (ZO.length : Int)
     ·rw [if_pos c9] at H
      have c9b0 : decide (ZA < (ZO.length : Int)) = true := decide_eq_true c9; clear c9
      obtain ⟨Zr, OQ⟩ : ∃ j_ : Int, (wrap64 ((rd ZO ZA) - 1)) = j_ := ⟨_, rfl⟩
      replace H : (if 0 ≤ (Zr) then (if (Zr) < (l0.length : Int) then ((some (Hs (Xa l0 (Zr)))).bind fun OP => (if OP = true then (if JO.length < 17592186044416 then (XR.l0 Hs k1 l0 (JO ++ [(Xa l0 (Zr)).f2]) ZO (ZO.length : Int) (wrap64 (ZA + 1))) else (none)) else (XR.l0 Hs k1 l0 JO ZO (ZO.length : Int) (wrap64 (ZA + 1))))) else (none)) else (none)) = some r := by first | (rw [OQ] at H; exact H) | (simp only [OQ] at H ⊢; exact H)
      have hji10w : (IntKind.i64.wrap ((rd ZO ZA) - 1)) = Zr := (X9 _).trans OQ
      by_cases c11 : 0 ≤ (Zr)
      ·rw [if_pos c11] at H
       have OT : decide (0 ≤ (Zr)) = true := decide_eq_true c11; clear c11
       by_cases c12 : (Zr) < (l0.length : Int)
       ·rw [if_pos c12] at H
        have WQ : decide ((Zr) < (l0.length : Int)) = true := decide_eq_true c12; clear c12; replace H := Option.bind_eq_some_iff.mp H; obtain ⟨OP, OU, H⟩ := H; replace H : (if OP = true then (if JO.length < 17592186044416 then (XR.l0 Hs k1 l0 (JO ++ [(Xa l0 (Zr)).f2]) ZO (ZO.length : Int) (wrap64 (ZA + 1))) else (none)) else (XR.l0 Hs k1 l0 JO ZO (ZO.length : Int) (wrap64 (ZA + 1)))) = some r := H; have A13 := az OU; clear OU
        by_cases c14 : OP = true
        ·subst c14
         have H1 : (if JO.length < 17592186044416 then (XR.l0 Hs k1 l0 (JO ++ [(Xa l0 (Zr)).f2]) ZO (ZO.length : Int) (wrap64 (ZA + 1))) else (none)) = some r := by rw [if_pos rfl] at H; exact H
         clear H; have H := H1; clear H1
         by_cases c15 : JO.length < 17592186044416
         ·rw [if_pos c15] at H
          have LMc15 := az c15; clear c15
          obtain ⟨XpC, hy488⟩ : ∃ y_ : List Int, y_ = (JO ++ [(Xa l0 (Zr)).f2]) := ⟨_, rfl⟩
          replace H : (XR.l0 Hs k1 l0 XpC ZO (ZO.length : Int) (wrap64 (ZA + 1))) = some r := by first | (rw [hy488]; with_reducible exact H) | (have H2_ := (Option.bind_some _ _).symm.trans H; rw [hy488]; with_reducible exact H2_) | (have H2_ := (Option.bind_some _ _).symm.trans H; with_reducible exact H2_) | with_reducible exact H | (rw [hy488]; exact H) | exact H
          have Ny488 := az hy488; clear hy488; have H' := az H; clear H; have L6 : 0 ≤ (ZA : Int) := of_decide_eq_true zb3; have L8 : ZA < (ZO.length : Int) := of_decide_eq_true zb3; obtain ⟨Xfh, Xhn, Xc8⟩ := Kd.Jh (Kd.XN HO_13.out).2.2 ZA L6 L8
          cases Xhn
          replace L6 := eq_true L6; replace L8 := eq_true L8; have L9 : 0 ≤ ((Zr) : Int) := of_decide_eq_true zb3; have LA : (Zr) < (l0.length : Int) := of_decide_eq_true zb3; obtain ⟨XpD, Xho, FE, FH, FI, FJ, FL, FM, FN, FO⟩ := Yt HR0.out (Zr) L9 LA
          cases Xho
          replace FE := cb HB FE; replace FH := cb HB FH; replace FI := cb HB FI; replace FJ := cb HB FJ; replace FL := cb HB FL; replace FM := cb HB FM; replace FN := cb HB FN; replace FO := cb HB FO; replace L9 := eq_true L9; replace LA := eq_true LA
          go_wp2_with (first | ((with_reducible refine Xn (N := 10) rfl ?_); refine Xl ?hg (N := 10) ?hd (cs := #[.int .i64 0, .int .i64 0, .int .i64 0, .int .i64 0, .int .i64 0, .int .i64 0, .int .i64 0, .int .i64 0]) (t := 76) ?hr ?_; (case hd => rfl); (case hg => rfl); (case hr => exact zb10); intro Sb hg w16 hbox hb; replace HO_7 := az (Kd.X3 zb26 hb); replace HO_13 := az (Kd.X3 zb35 hb); have JP := az (hbox); have OV := az ((zb129 : w.heap.size ≤ Sb)); have XpE := OV; replace HB := az (Xc zb1 hb); clear hb hbox hg; obtain ⟨Kg, Kh, Ki, TF, TG, XrQ, XrR, XrS⟩ := cz8 JP; obtain ⟨Kj, Kk, Kl, TH, TI, XrT, XrU⟩ := fz7 JP; have XrV := Xd JP.out 7) | (go_at_call 107; refine (HHs.out (Xa l0 Zr) _).mono ?_; rintro e w18 ⟨rfl, hb⟩; rw [Option.some.inj A13.out]; replace HO_7 := az (Kd.X3 zb69 hb); replace HO_13 := az (Kd.X3 zb67 hb); replace JP := az (XC (g := Sb) (o := .cells #[.int .i64 ((Xa l0 (Zr)).f0), .int .i64 ((Xa l0 (Zr)).f1), .int .i64 ((Xa l0 (Zr)).f2), .int .i64 ((Xa l0 (Zr)).f3), .int .i64 ((Xa l0 (Zr)).f4), .int .i64 ((Xa l0 (Zr)).f5), .int .i64 ((Xa l0 (Zr)).f6), .int .i64 ((Xa l0 (Zr)).f7)] 76 (0, 0)) zb85 hb); replace HB := az (Xc zb0 hb); (try clear hb); (try clear hb2); (try clear hk); (try clear hi); obtain ⟨Gp, Gq, Gr, Km, Kn, Xjz, Xj0, Xj1⟩ := cz8 JP; obtain ⟨Gs, Gt, Gu, Ko, Kq, Xj2, Xj3⟩ := fz7 JP; have Xj4 := Xd JP.out 7) | ((with_reducible refine JV (b := .append) (xs := #[.tmp 27, .tmp 30]) rfl ?_); at_builtin; refine Kd.Sv (Kd.int .i64) (w0 := w) w.heap.size rfl (.tmp 27) (.tmp 30) 37 3 (.int .i64 0) 8 rfl Tryz.underlying37 info3 rfl (by decide) (by omega) u7 JO ((Xa l0 (Zr)).f2) [.int .i64 ((Xa l0 (Zr)).f2)] (fun k_ => some k_ ≠ (.slice (some Xfh) ZO.length co6 : Value).ownBlock) (fun _ => False) rfl rfl ?aP (fun _ hk => hk.elim) ?aF ?aO ?aB ?aS ?aL ?_; (case aP => exact rfl); (case aB => exact zb0); (case aF => exact (fun k_ hk => Kd.fresh' (Kd.Ur zb35) k_ hk)); (case aO => exact zb26); (case aS => exact (Xv zb0)); (case aL => have := LMc15.out; omega); intro v489 w20 ho hb hg hat; rw [← Ny488.out] at ho; replace HO_13 := az (Kd.Ch (ok := (fun _ => True)) zb114 hg hat); replace JP := az (Gn (g := Sb) (o := .cells #[.int .i64 ((Xa l0 (Zr)).f0), .int .i64 ((Xa l0 (Zr)).f1), .int .i64 ((Xa l0 (Zr)).f2), .int .i64 ((Xa l0 (Zr)).f3), .int .i64 ((Xa l0 (Zr)).f4), .int .i64 ((Xa l0 (Zr)).f5), .int .i64 ((Xa l0 (Zr)).f6), .int .i64 ((Xa l0 (Zr)).f7)] 76 (0, 0)) (by (with_reducible repeat (first | apply bn | apply bd | apply ba)); exact JP.out) hg (Kd.Xrl HO_7.out JP.out (by decide))); replace HB := az (hb); have XpF := az (ho); clear HO_7; clear ho hb hg hat))
          go_roundg k1
          case measure => have := HK1.out; omega
          case rel => exact ⟨(XpC), (wrap64 (ZA + 1)), zb6, H', ⟨zb37⟩, ⟨by (with_reducible repeat (first | apply Kd.XU | apply Kd.XX | apply Kd.Yj)); exact XpF.out⟩, ⟨zb119⟩, ⟨zb0⟩⟩
         ·rw [if_neg c15] at H
          exact absurd H (by simp)
        ·replace c14 := Bool.eq_false_iff.mpr c14
         subst c14
         have H1 : (XR.l0 Hs k1 l0 JO ZO (ZO.length : Int) (wrap64 (ZA + 1))) = some r := by rw [if_neg (show ¬ (false = true) by decide)] at H; exact H
         clear H; have H := H1; clear H1; have H' := az H; clear H; have L6 : 0 ≤ (ZA : Int) := of_decide_eq_true zb3; have L8 : ZA < (ZO.length : Int) := of_decide_eq_true zb3; obtain ⟨Xfh, Xhn, Xc8⟩ := Kd.Jh (Kd.XN HO_13.out).2.2 ZA L6 L8
         cases Xhn
         replace L6 := eq_true L6; replace L8 := eq_true L8; have L9 : 0 ≤ ((Zr) : Int) := of_decide_eq_true zb3; have LA : (Zr) < (l0.length : Int) := of_decide_eq_true zb3; obtain ⟨XpD, Xho, FE, FH, FI, FJ, FL, FM, FN, FO⟩ := Yt HR0.out (Zr) L9 LA
         cases Xho
         replace FE := cb HB FE; replace FH := cb HB FH; replace FI := cb HB FI; replace FJ := cb HB FJ; replace FL := cb HB FL; replace FM := cb HB FM; replace FN := cb HB FN; replace FO := cb HB FO; replace L9 := eq_true L9; replace LA := eq_true LA
         go_wp2_with (first | ((with_reducible refine Xn (N := 10) rfl ?_); refine Xl ?hg (N := 10) ?hd (cs := #[.int .i64 0, .int .i64 0, .int .i64 0, .int .i64 0, .int .i64 0, .int .i64 0, .int .i64 0, .int .i64 0]) (t := 76) ?hr ?_; (case hd => rfl); (case hg => rfl); (case hr => exact zb10); intro Sb hg w21 hbox hb; replace HO_7 := az (Kd.X3 zb26 hb); replace HO_13 := az (Kd.X3 zb35 hb); have JP := az (hbox); have OV := az ((zb129 : w.heap.size ≤ Sb)); have XpE := OV; replace HB := az (Xc zb1 hb); clear hb hbox hg; obtain ⟨TJ, TK, TL, TM, TN, XrW, XrX, XrY⟩ := cz8 JP; obtain ⟨TP, TQ, TR, TS, TT, XrZ, Xsa⟩ := fz7 JP; have Xsb := Xd JP.out 7) | (go_at_call 107; refine (HHs.out (Xa l0 Zr) _).mono ?_; rintro e w23 ⟨rfl, hb⟩; rw [Option.some.inj A13.out]; replace HO_7 := az (Kd.X3 zb69 hb); replace HO_13 := az (Kd.X3 zb67 hb); replace JP := az (XC (g := Sb) (o := .cells #[.int .i64 ((Xa l0 (Zr)).f0), .int .i64 ((Xa l0 (Zr)).f1), .int .i64 ((Xa l0 (Zr)).f2), .int .i64 ((Xa l0 (Zr)).f3), .int .i64 ((Xa l0 (Zr)).f4), .int .i64 ((Xa l0 (Zr)).f5), .int .i64 ((Xa l0 (Zr)).f6), .int .i64 ((Xa l0 (Zr)).f7)] 76 (0, 0)) zb85 hb); replace HB := az (Xc zb0 hb); (try clear hb); (try clear hb2); (try clear hk); (try clear hi)))
         go_roundg k1
         case measure => have := HK1.out; omega
         case rel => exact ⟨(JO), (wrap64 (ZA + 1)), zb6, H', ⟨zb37⟩, ⟨zb26⟩, ⟨zb35⟩, ⟨zb0⟩⟩
       ·rw [if_neg c12] at H
        exact absurd H (by simp)
      ·rw [if_neg c11] at H
       exact absurd H (by simp)
     ·rw [if_neg c9] at H
      exact absurd H (by simp)
    ·rw [if_neg c8] at H
     exact absurd H (by simp)
   ·rw [if_neg c7] at H
    have c7b0 : decide (ZA < (ZO.length : Int)) = false := decide_eq_false c7; clear c7; obtain rfl := Option.some.inj H; obtain ⟨A7, c7, eo7⟩ := Kd.YZ HO_7.out; subst eo7; have HL := az hlen; clear hlen; have HP := az (ME JO)
    go_wp2_with fail
    refine (Ez w _ (fun _ => True) _ JO HB.out (Kd.Yz HO_7.out (fun _ _ => trivial)) HL.out).mono ?_; rintro e w21 ⟨rfl, hr1, hb1⟩; have HR1 := az hr1; have HB1 := az hb1; clear hr1 hb1; have hl2 := az (show (JO.mergeSort leI).length ≤ 9223372036854775807 by have := HL.out; simp; omega); have hl3 := az (show (JO.mergeSort leI).length = JO.length by simp); rw [← hl3.out]
    go_wp2_with fail
    refine (PY w _ (fun _ => True) _ _ HB1.out HR1.out hl2.out).mono ?_; rintro e w22 ⟨A8, c8, rfl, hc8, hr2, hb2⟩; have HR2 := az hr2; have HB2 := az hb2; have HC8 := az hc8; clear hr2 hb2 hc8
    go_wp2_with fail
    refine (QN A8 _ c8 _ HC8.out (by have := HL.out; have := HP.out; unfold Wx at this; exact Nat.le_trans this (by omega))).mono ?_; rintro e w23 ⟨rfl, rfl⟩
    go_wp2_with fail
    go_ret
    exact ⟨_, rfl, ⟨fun _ _ => trivial, A8, _, c8, rfl, Nat.le_refl _, HR2.out⟩, HB2.out⟩
end Go.Proofs.YtphnphmbfogmlaaGreat.Pr
