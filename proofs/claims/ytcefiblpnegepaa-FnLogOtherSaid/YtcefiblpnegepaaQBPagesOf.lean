import Derived.Test.YtcefiblpnegepaaQBByq
import Derived.Test.YtcefiblpnegepaaQBPrLC2
import Derived.Test.YtcefiblpnegepaaQBPgTail
namespace Go.Proofs.Ytcefiblpnegepaa.Pr
open Go.RowKit Go.PW Go.PL Go.PM Go.Proofs.Ytcefiblpnegepaa.T Go.Sort
attribute [local go_sem] Y3 Y4 YV YW Yk Yl Y5 Y6
set_option linter.unusedVariables false
set_option linter.unusedSimpArgs false
def Zy.l0 : Nat → List (S41) → List Int → List Int → Int → Int → Option (List Int)
  | 0, _, _, _, _, _ => none
  | k + 1, x0, x7, x13, x14, x15 => if x15 < x14 then (if 0 ≤ x15 then (if x15 < (x13.length : Int) then (if 0 ≤ (wrap64 ((rd x13 x15) - 1)) then (if (wrap64 ((rd x13 x15) - 1)) < (x0.length : Int) then (if x7.length < 17592186044416 then (Zy.l0 k x0 (x7 ++ [(Xa x0 (wrap64 ((rd x13 x15) - 1))).f2]) x13 x14 (wrap64 (x15 + 1))) else (none)) else (none)) else (none)) else (none)) else (none)) else (some x7)
def Zy.f (k : Nat) (l0 : List (S41)) (a1 : Int) (a2 : Int) : Option (List Int) := (YD.f k l0 a1).bind fun GG => (Zy.l0 k l0 ([] : List Int) GG (GG.length : Int) 0)
set_option maxHeartbeats 8000000 in
set_option maxRecDepth 100000 in
theorem EX (k : Nat) (A0 : Option Addr) (c0 : Nat) (l0 : List (S41)) (a1 : Int) (a2 : Int) (r : List Int) (w : World) (hr0 : Kd.C k41 w A0 l0.length l0) (hc0 : l0.length ≤ c0) (hlen : r.length < 4611686018427387904) (h : Zy.f k l0 a1 a2 = some r) :
    Calls Try.prog 109 #[.slice A0 l0.length c0, .int .i64 a1, .func (Fn.func 110) #[] #[]] w fun e w' => ∃ v0_ : Value, e = .returned (v0_) ∧ Z (Kd.int .i64) 3 w' w.heap.size (fun _ => True) v0_ (BZ r) ∧ Below w.heap.size w w' := by
  have hu41 := Try.underlying41; have HR0 := az hr0; have HC0 := az hc0; clear hr0 hc0; have HB := az (Below.refl w.heap.size w); have H : ((YD.f k l0 a1).bind fun GG => (Zy.l0 k l0 ([] : List Int) GG (GG.length : Int) 0)) = some r := h; clear h; replace H := Option.bind_eq_some_iff.mp H; obtain ⟨GG, A40, H⟩ := H; replace H : (Zy.l0 k l0 ([] : List Int) GG (GG.length : Int) 0) = some r := H; have A4 := az A40; clear A40; have H' := az H; clear H
  go_enter Try.func109, Try.ntmps109
  go_wp2_with (first | ((with_reducible refine Xg (f := 105) rfl ?_); refine X6 (some 13) rfl rfl Try.func105 zb13 rfl #[.slice A0 l0.length c0, .int .i64 a1] rfl zb0 ?_; (with_reducible refine (YD.calls k _ _ l0 a1 GG _ ?side1 ?side2 A4.out).mono ?_); (case side1 => exact zb23); (case side2 => exact HC0.out); rintro e w5 ⟨v333, rfl, ho0, hb⟩; refine ⟨_, rfl, ?_⟩; have Xli := az (Kd.XT ho0 (Xq zb1)); replace HB := az (Xe zb1 hb); (try clear hb); (try clear hb2); (try clear hk); (try clear hi); (try clear ho0); obtain ⟨Ao6, co6, eo6⟩ := Kd.Xx Xli.out; subst eo6))
  go_loopg [7, 15] k (fun kq v7 v15 w' => ∃ (FE : List Int) (G8 : Int), v15 = .int .i64 G8 ∧ Aside0 (Zy.l0 kq l0 FE GG (GG.length : Int) G8 = some r) ∧ Aside0 (kq ≤ k) ∧ Aside0 (Kd.R (Kd.int .i64) 3 w' w.heap.size (fun k_ => some k_ ≠ ((.slice Ao6 GG.length co6) : Value).ownBlock) v7 FE) ∧ Aside0 (Kd.R (Kd.int .i64) 3 w' w.heap.size (fun k_ => some k_ ≠ (v7 : Value).ownBlock) (.slice Ao6 GG.length co6) GG) ∧ Aside0 (Below w.heap.size w w'))
  case atStart => exact ⟨(([] : List Int)), (0), zb12, H', ⟨Nat.le_refl _⟩, ⟨zb20⟩, ⟨by (with_reducible repeat (first | apply Kd.XI | apply Kd.XJ | apply Kd.XR)); exact Kd.XN Xli.out (fun _ hk => zb135)⟩, ⟨zb1⟩⟩
  case round =>
    clear H'
    try clear c1
    try clear p2
    obtain ⟨FE, G8, rfl, HA, HK1, HO_7, HO_13, HB⟩ := hrel
    cases gk with
    | zero => exact absurd HA.out (by simp [Zy.l0])
    | succ k1 =>
      have H := HA.out; clear HA; simp only [Zy.l0] at H
      by_cases c7 : G8 < (GG.length : Int)
      · rw [if_pos c7] at H
        have c7b0 : decide (G8 < (GG.length : Int)) = true := decide_eq_true c7; clear c7
        by_cases c8 : 0 ≤ G8
        · rw [if_pos c8] at H
          have c8b0 : decide (0 ≤ G8) = true := decide_eq_true c8; clear c8
          by_cases c9 : G8 < (GG.length : Int)
          · rw [if_pos c9] at H
            have c9b0 : decide (G8 < (GG.length : Int)) = true := decide_eq_true c9; clear c9
            obtain ⟨MI, Xe7⟩ : ∃ j_ : Int, (wrap64 ((rd GG G8) - 1)) = j_ := ⟨_, rfl⟩
            replace H : (if 0 ≤ (MI) then (if (MI) < (l0.length : Int) then (if FE.length < 17592186044416 then (Zy.l0 k1 l0 (FE ++ [(Xa l0 (MI)).f2]) GG (GG.length : Int) (wrap64 (G8 + 1))) else (none)) else (none)) else (none)) = some r := by first | (rw [Xe7] at H; exact H) | (simp only [Xe7] at H ⊢; exact H)
            have hji10w : (IntKind.i64.wrap ((rd GG G8) - 1)) = MI := (XG _).trans Xe7
            by_cases c11 : 0 ≤ (MI)
            · rw [if_pos c11] at H
              have Xcb : decide (0 ≤ (MI)) = true := decide_eq_true c11; clear c11
              by_cases c12 : (MI) < (l0.length : Int)
              · rw [if_pos c12] at H
                have QG : decide ((MI) < (l0.length : Int)) = true := decide_eq_true c12; clear c12
                by_cases c13 : FE.length < 17592186044416
                · rw [if_pos c13] at H
                  have LMc13 := az c13; clear c13
                  obtain ⟨y338, hy338⟩ : ∃ y_ : List Int, y_ = (FE ++ [(Xa l0 (MI)).f2]) := ⟨_, rfl⟩
                  replace H : (Zy.l0 k1 l0 y338 GG (GG.length : Int) (wrap64 (G8 + 1))) = some r := by first | (rw [hy338]; with_reducible exact H) | (have H2_ := (Option.bind_some _ _).symm.trans H; rw [hy338]; with_reducible exact H2_) | (have H2_ := (Option.bind_some _ _).symm.trans H; with_reducible exact H2_) | with_reducible exact H | (rw [hy338]; exact H) | exact H
                  have Ny338 := az hy338; clear hy338; have H' := az H; clear H; have XlO : 0 ≤ (G8 : Int) := of_decide_eq_true zb9; have XlP : G8 < (GG.length : Int) := of_decide_eq_true zb9; obtain ⟨XpG, e335, Xt6⟩ := Kd.Vv (Kd.Xi HO_13.out).2.2 G8 XlO XlP
                  cases e335
                  replace XlO := eq_true XlO; replace XlP := eq_true XlP; have XlQ : 0 ≤ ((MI) : Int) := of_decide_eq_true zb9; have XlR : (MI) < (l0.length : Int) := of_decide_eq_true zb9; obtain ⟨ad336, e336, Ip, Iq, Ir, Iu, Iw, Iy, Iz, I7⟩ := YN HR0.out (MI) XlQ XlR
                  cases e336
                  replace Ip := (HB.out.cell (World.block_lt_of_cell? w _ Ip)).trans Ip; replace Iq := (HB.out.cell (World.block_lt_of_cell? w _ Iq)).trans Iq; replace Ir := (HB.out.cell (World.block_lt_of_cell? w _ Ir)).trans Ir; replace Iu := (HB.out.cell (World.block_lt_of_cell? w _ Iu)).trans Iu; replace Iw := (HB.out.cell (World.block_lt_of_cell? w _ Iw)).trans Iw; replace Iy := (HB.out.cell (World.block_lt_of_cell? w _ Iy)).trans Iy; replace Iz := (HB.out.cell (World.block_lt_of_cell? w _ Iz)).trans Iz; replace I7 := (HB.out.cell (World.block_lt_of_cell? w _ I7)).trans I7; replace XlQ := eq_true XlQ; replace XlR := eq_true XlR
                  go_wp2_with (first | ((with_reducible refine XZ (N := 10) rfl ?_); refine YL ?hg (N := 10) ?hd (cs := #[.int .i64 0, .int .i64 0, .int .i64 0, .int .i64 0, .int .i64 0, .int .i64 0, .int .i64 0, .int .i64 0]) (t := 41) ?hr ?_; (case hd => rfl); (case hg => rfl); (case hr => exact zb21); intro Xlj hg w14 hbox hb; replace HO_7 := az (Kd.Xz zb14 hb); replace HO_13 := az (Kd.Xz (by (with_reducible repeat (first | apply Kd.XI | apply Kd.XJ | apply Kd.XR)); exact HO_13.out) hb); have Sv := az (hbox); have XpH := az ((zb150 : w.heap.size ≤ Xlj)); have GE337 := XpH; replace HB := az (Xe zb1 hb); clear hb hbox hg; obtain ⟨XhC, XhD, XhE, XhF, XhG, XhH, XhI, XhJ⟩ := cz8 Sv; obtain ⟨XhK, XhL, XhM, XhN, XhO, XhP, XhQ⟩ := fz7 Sv; have XhR := Xf Sv.out 7) | (go_at_call 110; refine (XdT _ _ _ _ _ _ _ _ _).mono ?_; rintro e w15 ⟨rfl, hb⟩; replace HO_7 := az (Kd.Xz (by (with_reducible repeat (first | apply Kd.XI | apply Kd.XJ | apply Kd.XR)); exact (fR8 HO_7.out Sv.out (by decide))) hb); replace HO_13 := az (Kd.Xz (by (with_reducible repeat (first | apply Kd.XI | apply Kd.XJ | apply Kd.XR)); exact (fR8 HO_13.out Sv.out (by decide))) hb); replace Sv := az (Z7 (by (with_reducible repeat (first | apply bn | apply bd | apply ba)); exact p8 Sv) hb); replace HB := az (Xe zb6 hb); clear hb; obtain ⟨hcy_0, hcy_1, hcy_2, hcy_3, hcy_4, hcy_5, hcy_6, hcy_7⟩ := cz8 Sv; obtain ⟨hfy_0, hfy_1, hfy_2, hfy_3, hfy_4, hfy_5, hfy_6, hfy_7⟩ := fz8 Sv) | ((with_reducible refine Zk (b := .append) (xs := #[.tmp 27, .tmp 30]) rfl ?_); at_builtin; refine Kd.Gv (Kd.int .i64) (w0 := w) w.heap.size rfl (.tmp 27) (.tmp 30) 23 3 (.int .i64 0) 8 rfl Try.underlying23 info3 rfl (by decide) (by omega) u7 FE ((Xa l0 (MI)).f2) [.int .i64 ((Xa l0 (MI)).f2)] (fun k_ => some k_ ≠ (.slice (some XpG) GG.length co6 : Value).ownBlock) (fun _ => False) rfl zb21 ?aP (fun _ hk => hk.elim) ?aF ?aO ?aB ?aS ?aL ?_; (case aP => exact rfl); (case aB => exact zb6); (case aF => exact (fun k_ hk => Kd.fresh' (Kd.J2 (by (with_reducible repeat (first | apply Kd.XI | apply Kd.XJ | apply Kd.XR)); exact HO_13.out)) k_ hk)); (case aO => exact zb14); (case aS => exact (Xq zb6)); (case aL => have := LMc13.out; omega); intro v339 w16 ho hb hg hat; rw [← Ny338.out] at ho; replace HO_13 := az (Fj (ok := (fun _ => True)) (by (with_reducible repeat (first | apply Kd.XI | apply Kd.XJ | apply Kd.XR)); exact Kd.XN HO_13.out (fun _ hk => ⟨trivial, hk⟩)) hg hat); replace Sv := az (Jk (g := Xlj) (o := .cells #[.int .i64 ((Xa l0 (MI)).f0), .int .i64 ((Xa l0 (MI)).f1), .int .i64 ((Xa l0 (MI)).f2), .int .i64 ((Xa l0 (MI)).f3), .int .i64 ((Xa l0 (MI)).f4), .int .i64 ((Xa l0 (MI)).f5), .int .i64 ((Xa l0 (MI)).f6), .int .i64 ((Xa l0 (MI)).f7)] 41 (0, 0)) (by (with_reducible repeat (first | apply bn | apply bd | apply ba)); exact Sv.out) hg (Kd.Pf HO_7.out Sv.out (by decide))); replace HB := az (hb); have XpI := az (ho); clear HO_7; clear ho hb hg hat))
                  go_roundg k1
                  case measure => have := HK1.out; omega
                  case rel => exact ⟨(y338), (wrap64 (G8 + 1)), zb12, H', ⟨zb61⟩, ⟨by (with_reducible repeat (first | apply Kd.XI | apply Kd.XJ | apply Kd.XR)); exact XpI.out⟩, ⟨by (with_reducible repeat (first | apply Kd.XI | apply Kd.XJ | apply Kd.XR)); exact Kd.XN HO_13.out (fun _ hk => hk.2)⟩, ⟨zb6⟩⟩
                · rw [if_neg c13] at H
                  exact absurd H (by simp)
              · rw [if_neg c12] at H
                exact absurd H (by simp)
            · rw [if_neg c11] at H
              exact absurd H (by simp)
          · rw [if_neg c9] at H
            exact absurd H (by simp)
        · rw [if_neg c8] at H
          exact absurd H (by simp)
      · rw [if_neg c7] at H
        have c7b0 : decide (G8 < (GG.length : Int)) = false := decide_eq_false c7; clear c7; obtain rfl := Option.some.inj H; obtain ⟨A7, c7, eo7⟩ := Kd.Xx HO_7.out; subst eo7; have HL := az hlen; clear hlen; have HP := az (XdU FE)
        go_wp2_with fail
        refine (Xa4 w _ (fun _ => True) _ FE HB.out (Kd.XN HO_7.out (fun _ _ => trivial)) HL.out).mono ?_; rintro e w21 ⟨rfl, hr1, hb1⟩; have HR1 := az hr1; have HB1 := az hb1; clear hr1 hb1; have hl2 := az (show (FE.mergeSort leI).length ≤ 9223372036854775807 by have := HL.out; simp; omega); have hl3 := az (show (FE.mergeSort leI).length = FE.length by simp); rw [← hl3.out]
        go_wp2_with fail
        refine (Ea w _ (fun _ => True) _ _ HB1.out HR1.out hl2.out).mono ?_; rintro e w22 ⟨A8, c8, rfl, hc8, hr2, hb2⟩; have HR2 := az hr2; have HB2 := az hb2; have HC8 := az hc8; clear hr2 hb2 hc8
        go_wp2_with fail
        refine (Xb9 A8 _ c8 _ HC8.out (by have := HL.out; have := HP.out; unfold BZ at this; exact Nat.le_trans this (by omega))).mono ?_; rintro e w23 ⟨rfl, rfl⟩
        go_wp2_with fail
        go_ret
        exact ⟨_, rfl, ⟨fun _ _ => trivial, A8, _, c8, rfl, Nat.le_refl _, HR2.out⟩, HB2.out⟩
end Go.Proofs.Ytcefiblpnegepaa.Pr
