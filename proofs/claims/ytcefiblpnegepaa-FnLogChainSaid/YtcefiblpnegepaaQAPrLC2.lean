import Derived.Test.YtcefiblpnegepaaQAByq
import Derived.Test.YtcefiblpnegepaaQAWLogB
import Derived.Test.YtcefiblpnegepaaQASx
import Derived.Test.YtcefiblpnegepaaQALast
import Derived.Test.YtcefiblpnegepaaQALogP
namespace Go.Proofs.Ytcefiblpnegepaa.Pr
open Go.RowKit Go.PW Go.PL Go.PM
attribute [local go_sem] YB YC Zc Zd Yn Yo YD YE
set_option linter.unusedVariables false
set_option linter.unusedSimpArgs false
def XU.l0 : Nat → List (S41) → List Int → Int → Option (List Int)
  | 0, _, _, _ => none
  | k + 1, x0, x5, x6 => if x6 > 0 then (if x5.length < 17592186044416 then (if 0 ≤ (wrap64 (x6 - 1)) then (if (wrap64 (x6 - 1)) < (x0.length : Int) then (XU.l0 k x0 (x5 ++ [x6]) ((Xa x0 (wrap64 (x6 - 1))).f6)) else (none)) else (none)) else (none)) else (some x5)
def XU.f (k : Nat) (l0 : List (S41)) (a1 : Int) : Option (List Int) := (some (([] : List Int) : List Int)).bind fun MJ => ((Xi.f k l0).bind fun Rs => (if Rs = true then ((Xn.f k l0 a1).bind fun NA => (XU.l0 k l0 MJ NA)) else (some MJ)))
set_option maxHeartbeats 8000000 in
set_option maxRecDepth 100000 in
theorem XU.calls (k : Nat) (A0 : Option Addr) (c0 : Nat) (l0 : List (S41)) (a1 : Int) (r : List Int) (w : World) (hr0 : Kd.C k41 w A0 l0.length l0) (hc0 : l0.length ≤ c0) (h : XU.f k l0 a1 = some r) :
    Calls Try.prog 58 #[.slice A0 l0.length c0, .int .i64 a1] w fun e w' => ∃ v0_ : Value, e = .returned (v0_) ∧ Kd.R (Kd.int .i64) 3 w' w.heap.size (fun _ => True) v0_ r ∧ Below w.heap.size w w' := by
  have HR0 := zz hr0; have HC0 := zz hc0; clear hr0 hc0; have HB := zz (Below.refl w.heap.size w); have H : ((some (([] : List Int) : List Int)).bind fun MJ => ((Xi.f k l0).bind fun Rs => (if Rs = true then ((Xn.f k l0 a1).bind fun NA => (XU.l0 k l0 MJ NA)) else (some MJ)))) = some r := h; clear h
  obtain ⟨MJ, hy1025⟩ : ∃ y_ : List Int, y_ = (([] : List Int)) := ⟨_, rfl⟩
  replace H : ((Xi.f k l0).bind fun Rs => (if Rs = true then ((Xn.f k l0 a1).bind fun NA => (XU.l0 k l0 MJ NA)) else (some MJ))) = some r := by first | (rw [hy1025]; with_reducible exact H) | (have H2_ := (Option.bind_some _ _).symm.trans H; rw [hy1025]; with_reducible exact H2_) | (have H2_ := (Option.bind_some _ _).symm.trans H; with_reducible exact H2_) | with_reducible exact H | (rw [hy1025]; exact H) | exact H
  have Ny1025 := zz hy1025; clear hy1025; replace H := Option.bind_eq_some_iff.mp H; obtain ⟨Rs, A30, H⟩ := H; replace H : (if Rs = true then ((Xn.f k l0 a1).bind fun NA => (XU.l0 k l0 MJ NA)) else (some MJ)) = some r := H; have A3 := zz A30; clear A30
  by_cases c4 : Rs = true
  · subst c4
    have H1 : ((Xn.f k l0 a1).bind fun NA => (XU.l0 k l0 MJ NA)) = some r := by rw [if_pos rfl] at H; exact H
    clear H; have H := H1; clear H1; replace H := Option.bind_eq_some_iff.mp H; obtain ⟨NA, A50, H⟩ := H; replace H : (XU.l0 k l0 MJ NA) = some r := H; have A5 := zz A50; clear A50; have H' := zz H; clear H
    go_enter Try.func58, Try.ntmps58
    go_wp2_with (first | ((with_reducible refine XO (N := 7) rfl ?_); refine Kd.Gp (Kd.int .i64) _ 3 ?hg (N := 7) ?hd (xs := ([] : List Int)) (inner := []) (ok := fun _ => True) (okp := fun _ => True) ?hr ?hp (fun _ hk => hk) trivial (Below.refl _ _) (Nat.le_refl _) (by simp) ?_; (case hd => rfl); (case hg => rfl); (case hr => exact zb22); (case hp => exact zb121); intro XsR w6 ho7 hb hg_ hnew_; clear hg_ hnew_; (first | rw [← Ny1025.out] at ho7 | (simp only [Int.reduceToNat] at ho7; rw [← Ny1025.out] at ho7)); have n0_ := zz (Kd.Ye ho7 (Xr zb4)); have n1_ := zz (Xe zb4 hb); clear HB; have LV := n0_; have HB := n1_; clear n0_ n1_; clear hb ho7) | ((with_reducible refine Xg (f := 32) rfl ?_); refine Xz (some 9) rfl rfl Try.func32 zb14 rfl #[.slice A0 l0.length c0] rfl zb0 ?_; (with_reducible refine (Xi.calls k _ _ l0 true _ ?side1 ?side2 A3.out).mono ?_); (case side1 => exact zb15); (case side2 => exact HC0.out); rintro e w8 ⟨rfl, hb⟩; refine ⟨_, rfl, ?_⟩; have n0_ := zz (Kd.XA zb97 hb); have n1_ := zz (Xe zb4 hb); clear LV; clear HB; have LV := n0_; have HB := n1_; clear n0_ n1_; (try clear hb); (try clear hb2); (try clear hk); (try clear hi)) | ((with_reducible refine Xg (f := 84) rfl ?_); refine Xz (some 14) rfl rfl Try.func84 zb14 rfl #[.slice A0 l0.length c0, .int .i64 a1] rfl zb0 ?_; (with_reducible refine (Xn.calls k _ _ l0 a1 NA _ ?side1 ?side2 A5.out).mono ?_); (case side1 => exact zb15); (case side2 => exact HC0.out); rintro e w' ⟨rfl, ⟨nd, rfl⟩⟩; refine ⟨_, rfl, ?_⟩))
    go_loopg [5, 6] k (fun kq v5 v6 w' => ∃ (Yj : List Int) (FO : Int), v6 = .int .i64 FO ∧ Aside0 (XU.l0 kq l0 Yj FO = some r) ∧ Aside0 (kq ≤ k) ∧ Aside0 (Kd.R (Kd.int .i64) 3 w' w.heap.size (fun _ => True) v5 Yj) ∧ Aside0 (Below w.heap.size w w'))
    case atStart => exact ⟨(MJ), (NA), zb12, H', ⟨Nat.le_refl _⟩, ⟨zb97⟩, ⟨zb4⟩⟩
    case round =>
      clear H'
      try clear p2
      try clear c3
      try clear c4
      try clear c5
      try clear c8
      obtain ⟨Yj, FO, rfl, HA, HK1, HO_5, HB⟩ := hrel
      cases gk with
      | zero => exact absurd HA.out (by simp [XU.l0])
      | succ k1 =>
        have H := HA.out; clear HA; simp only [XU.l0] at H
        by_cases c9 : FO > 0
        · rw [if_pos c9] at H
          have c9b0 : decide (0 < FO) = true := decide_eq_true c9; clear c9
          by_cases c10 : Yj.length < 17592186044416
          · rw [if_pos c10] at H
            have LMc10 := zz c10; clear c10
            obtain ⟨XfK, hy1030⟩ : ∃ y_ : List Int, y_ = (Yj ++ [FO]) := ⟨_, rfl⟩
            replace H : (if 0 ≤ (wrap64 (FO - 1)) then (if (wrap64 (FO - 1)) < (l0.length : Int) then (XU.l0 k1 l0 XfK ((Xa l0 (wrap64 (FO - 1))).f6)) else (none)) else (none)) = some r := by first | (rw [hy1030]; with_reducible exact H) | (have H2_ := (Option.bind_some _ _).symm.trans H; rw [hy1030]; with_reducible exact H2_) | (have H2_ := (Option.bind_some _ _).symm.trans H; with_reducible exact H2_) | with_reducible exact H | (rw [hy1030]; exact H) | exact H
            have Ny1030 := zz hy1030; clear hy1030
            obtain ⟨RJ, XcU⟩ : ∃ j_ : Int, (wrap64 (FO - 1)) = j_ := ⟨_, rfl⟩
            replace H : (if 0 ≤ (RJ) then (if (RJ) < (l0.length : Int) then (XU.l0 k1 l0 XfK ((Xa l0 (RJ)).f6)) else (none)) else (none)) = some r := by first | (rw [XcU] at H; exact H) | (simp only [XcU] at H ⊢; exact H)
            have hji11w : (IntKind.i64.wrap (FO - 1)) = RJ := (XB _).trans XcU
            by_cases c12 : 0 ≤ (RJ)
            · rw [if_pos c12] at H
              have XcV : decide (0 ≤ (RJ)) = true := decide_eq_true c12; clear c12
              by_cases c13 : (RJ) < (l0.length : Int)
              · rw [if_pos c13] at H
                have P8 : decide ((RJ) < (l0.length : Int)) = true := decide_eq_true c13; clear c13; have H' := zz H; clear H
                go_wp2_with (first | ((with_reducible refine Zh (b := .append) (xs := #[.tmp 23, .tmp 25]) rfl ?_); at_builtin; refine Kd.Uz (Kd.int .i64) (w0 := w) w.heap.size rfl (.tmp 23) (.tmp 25) 23 3 (.int .i64 0) 8 rfl Try.underlying23 info3 rfl (by decide) (by omega) u5 Yj FO [.int .i64 FO] (fun _ => True) (fun _ => False) rfl rfl ?aP (fun _ hk => hk.elim) ?aF ?aO ?aB ?aS ?aL ?_; (case aP => exact rfl); (case aB => exact zb4); (case aF => exact zb135); (case aO => exact zb29); (case aS => exact (Xr zb4)); (case aL => have := LMc10.out; omega); intro v1031 w14 ho hb hg hat; rw [← Ny1030.out] at ho; have n0_ := zz (hb); have n1_ := zz (ho); clear HB; clear HO_5; have HB := n0_; have Xnx := n1_; clear n0_ n1_; clear ho hb hg hat; have XfL : 0 ≤ ((RJ) : Int) := of_decide_eq_true zb7; have XfM : (RJ) < (l0.length : Int) := of_decide_eq_true zb7; obtain ⟨ad1033, XsS, Bv, Bw, Bz, BA, BB, BC, BD, BF⟩ := XV HR0.out (RJ) XfL XfM; cases XsS; replace Bv := (HB.out.cell (World.block_lt_of_cell? w _ Bv)).trans Bv; replace Bw := (HB.out.cell (World.block_lt_of_cell? w _ Bw)).trans Bw; replace Bz := (HB.out.cell (World.block_lt_of_cell? w _ Bz)).trans Bz; replace BA := (HB.out.cell (World.block_lt_of_cell? w _ BA)).trans BA; replace BB := (HB.out.cell (World.block_lt_of_cell? w _ BB)).trans BB; replace BC := (HB.out.cell (World.block_lt_of_cell? w _ BC)).trans BC; replace BD := (HB.out.cell (World.block_lt_of_cell? w _ BD)).trans BD; replace BF := (HB.out.cell (World.block_lt_of_cell? w _ BF)).trans BF; replace XfL := eq_true XfL; replace XfM := eq_true XfM))
                go_roundg k1
                case measure => have := HK1.out; omega
                case rel => exact ⟨(XfK), ((Xa l0 (RJ)).f6), (by first | rfl | (simp; done) | (simp only [← XcU] <;> (first | rfl | simp)) | (simp [*]; done)), H', ⟨zb54⟩, ⟨by (with_reducible repeat (first | apply Kd.Yf | apply Kd.Ym | apply Kd.Y3)); exact Xnx.out⟩, ⟨zb4⟩⟩
              · rw [if_neg c13] at H
                exact absurd H (by simp)
            · rw [if_neg c12] at H
              exact absurd H (by simp)
          · rw [if_neg c10] at H
            exact absurd H (by simp)
        · rw [if_neg c9] at H
          have c9b0 : decide (0 < FO) = false := decide_eq_false c9; clear c9; obtain rfl := Option.some.inj H
          go_wp2
          go_ret
          exact ⟨_, zb8, zb29, zb4⟩
  · replace c4 := Bool.eq_false_iff.mpr c4
    subst c4
    have H1 : (some MJ) = some r := by rw [if_neg (show ¬ (false = true) by decide)] at H; exact H
    clear H; have H := H1; clear H1; obtain rfl := Option.some.inj H
    go_enter Try.func58, Try.ntmps58
    go_wp2_with (first | ((with_reducible refine XO (N := 7) rfl ?_); refine Kd.Gp (Kd.int .i64) _ 3 ?hg (N := 7) ?hd (xs := ([] : List Int)) (inner := []) (ok := fun _ => True) (okp := fun _ => True) ?hr ?hp (fun _ hk => hk) trivial (Below.refl _ _) (Nat.le_refl _) (by simp) ?_; (case hd => rfl); (case hg => rfl); (case hr => exact zb22); (case hp => exact zb121); intro XsR w15 ho16 hb hg_ hnew_; clear hg_ hnew_; (first | rw [← Ny1025.out] at ho16 | (simp only [Int.reduceToNat] at ho16; rw [← Ny1025.out] at ho16)); have n0_ := zz (Kd.Ye ho16 (Xr zb4)); have n1_ := zz (Xe zb4 hb); clear HB; have LV := n0_; have HB := n1_; clear n0_ n1_; clear hb ho16) | ((with_reducible refine Xg (f := 32) rfl ?_); refine Xz (some 9) rfl rfl Try.func32 zb14 rfl #[.slice A0 l0.length c0] rfl zb0 ?_; (with_reducible refine (Xi.calls k _ _ l0 false _ ?side1 ?side2 A3.out).mono ?_); (case side1 => exact zb15); (case side2 => exact HC0.out); rintro e w17 ⟨rfl, hb⟩; refine ⟨_, rfl, ?_⟩; have n0_ := zz (Kd.XA zb97 hb); have n1_ := zz (Xe zb4 hb); clear LV; clear HB; have LV := n0_; have HB := n1_; clear n0_ n1_; (try clear hb); (try clear hb2); (try clear hk); (try clear hi)))
    go_ret
    exact ⟨_, zb8, zb97, zb4⟩
def Zr.l0 : Nat → List (S41) → List Int → Int → Option (List Int)
  | 0, _, _, _ => none
  | k + 1, x0, x5, x6 => if x6 = 0 then (some x5) else (if x5.length < 17592186044416 then (if 0 ≤ (wrap64 (x6 - 1)) then (if (wrap64 (x6 - 1)) < (x0.length : Int) then (Zr.l0 k x0 (x5 ++ [x6]) ((Xa x0 (wrap64 (x6 - 1))).f6)) else (none)) else (none)) else (none))
def Zr.f (k : Nat) (l0 : List (S41)) (a1 : Int) : Option (List Int) := (Jv.f k l0 a1).bind fun BG => (Zr.l0 k l0 ([] : List Int) BG)
set_option maxHeartbeats 8000000 in
set_option maxRecDepth 100000 in
theorem Zr.calls (k : Nat) (A0 : Option Addr) (c0 : Nat) (l0 : List (S41)) (a1 : Int) (r : List Int) (w : World) (hr0 : Kd.C k41 w A0 l0.length l0) (hc0 : l0.length ≤ c0) (h : Zr.f k l0 a1 = some r) :
    Calls Try.prog 105 #[.slice A0 l0.length c0, .int .i64 a1] w fun e w' => ∃ v0_ : Value, e = .returned (v0_) ∧ Kd.R (Kd.int .i64) 3 w' w.heap.size (fun _ => True) v0_ r ∧ Below w.heap.size w w' := by
  have HR0 := zz hr0; have HC0 := zz hc0; clear hr0 hc0; have HB := zz (Below.refl w.heap.size w); have H : ((Jv.f k l0 a1).bind fun BG => (Zr.l0 k l0 ([] : List Int) BG)) = some r := h; clear h; replace H := Option.bind_eq_some_iff.mp H; obtain ⟨BG, A30, H⟩ := H; replace H : (Zr.l0 k l0 ([] : List Int) BG) = some r := H; have A3 := zz A30; clear A30; have H' := zz H; clear H
  go_enter Try.func105, Try.ntmps105
  go_wp2_with (first | ((with_reducible refine Xg (f := 87) rfl ?_); refine Xz (some 9) rfl rfl Try.func87 zb14 rfl #[.slice A0 l0.length c0, .int .i64 a1] rfl zb0 ?_; (with_reducible refine (Jv.calls k _ _ l0 a1 BG _ ?side1 ?side2 A3.out).mono ?_); (case side1 => exact zb17); (case side2 => exact HC0.out); rintro e w4 ⟨rfl, hb⟩; refine ⟨_, rfl, ?_⟩; have n0_ := zz (Xe zb4 hb); clear HB; have HB := n0_; clear n0_; (try clear hb); (try clear hb2); (try clear hk); (try clear hi)))
  go_loopg [5, 6] k (fun kq v5 v6 w' => ∃ (Yj : List Int) (FO : Int), v6 = .int .i64 FO ∧ Aside0 (Zr.l0 kq l0 Yj FO = some r) ∧ Aside0 (kq ≤ k) ∧ Aside0 (Kd.R (Kd.int .i64) 3 w' w.heap.size (fun _ => True) v5 Yj) ∧ Aside0 (Below w.heap.size w w'))
  case atStart => exact ⟨(([] : List Int)), (BG), zb12, H', ⟨Nat.le_refl _⟩, ⟨zb18⟩, ⟨zb4⟩⟩
  case round =>
    clear H'
    try clear c1
    try clear p2
    obtain ⟨Yj, FO, rfl, HA, HK1, HO_5, HB⟩ := hrel
    cases gk with
    | zero => exact absurd HA.out (by simp [Zr.l0])
    | succ k1 =>
      have H := HA.out; clear HA; simp only [Zr.l0] at H
      by_cases c5 : FO = 0
      · rw [if_pos c5] at H
        have c5b0 : (FO == 0) = true := beq_iff_eq.mpr c5; have c5b1 : (FO != 0) = false := bne_eq_false_iff_eq.mpr c5; clear c5; obtain rfl := Option.some.inj H
        go_wp2
        go_ret
        exact ⟨_, zb8, zb29, zb4⟩
      · rw [if_neg c5] at H
        have c5b0 : (FO == 0) = false := beq_eq_false_iff_ne.mpr c5; have c5b1 : (FO != 0) = true := bne_iff_ne.mpr c5
        by_cases c6 : Yj.length < 17592186044416
        · rw [if_pos c6] at H
          have LMc6 := zz c6; clear c6
          obtain ⟨XfN, hy1035⟩ : ∃ y_ : List Int, y_ = (Yj ++ [FO]) := ⟨_, rfl⟩
          replace H : (if 0 ≤ (wrap64 (FO - 1)) then (if (wrap64 (FO - 1)) < (l0.length : Int) then (Zr.l0 k1 l0 XfN ((Xa l0 (wrap64 (FO - 1))).f6)) else (none)) else (none)) = some r := by first | (rw [hy1035]; with_reducible exact H) | (have H2_ := (Option.bind_some _ _).symm.trans H; rw [hy1035]; with_reducible exact H2_) | (have H2_ := (Option.bind_some _ _).symm.trans H; with_reducible exact H2_) | with_reducible exact H | (rw [hy1035]; exact H) | exact H
          have Ny1035 := zz hy1035; clear hy1035
          obtain ⟨ji7, hji7⟩ : ∃ j_ : Int, (wrap64 (FO - 1)) = j_ := ⟨_, rfl⟩
          replace H : (if 0 ≤ (ji7) then (if (ji7) < (l0.length : Int) then (Zr.l0 k1 l0 XfN ((Xa l0 (ji7)).f6)) else (none)) else (none)) = some r := by first | (rw [hji7] at H; exact H) | (simp only [hji7] at H ⊢; exact H)
          have hji7w : (IntKind.i64.wrap (FO - 1)) = ji7 := (XB _).trans hji7
          by_cases c8 : 0 ≤ (ji7)
          · rw [if_pos c8] at H
            have c8b0 : decide (0 ≤ (ji7)) = true := decide_eq_true c8; clear c8
            by_cases c9 : (ji7) < (l0.length : Int)
            · rw [if_pos c9] at H
              have c9b0 : decide ((ji7) < (l0.length : Int)) = true := decide_eq_true c9; clear c9; have H' := zz H; clear H
              go_wp2_with (first | ((with_reducible refine Zh (b := .append) (xs := #[.tmp 18, .tmp 20]) rfl ?_); at_builtin; refine Kd.Uz (Kd.int .i64) (w0 := w) w.heap.size rfl (.tmp 18) (.tmp 20) 23 3 (.int .i64 0) 8 rfl Try.underlying23 info3 rfl (by decide) (by omega) u5 Yj FO [.int .i64 FO] (fun _ => True) (fun _ => False) rfl rfl ?aP (fun _ hk => hk.elim) ?aF ?aO ?aB ?aS ?aL ?_; (case aP => exact rfl); (case aB => exact zb4); (case aF => exact zb135); (case aO => exact zb29); (case aS => exact (Xr zb4)); (case aL => have := LMc6.out; omega); intro v1036 w10 ho hb hg hat; rw [← Ny1035.out] at ho; have n0_ := zz (hb); have n1_ := zz (ho); clear HB; clear HO_5; have HB := n0_; have Xny := n1_; clear n0_ n1_; clear ho hb hg hat; have XfO : 0 ≤ ((ji7) : Int) := of_decide_eq_true zb7; have XfP : (ji7) < (l0.length : Int) := of_decide_eq_true zb7; obtain ⟨ad1038, XsT, BH, BI, BJ, BK, BL, BM, BN, BO⟩ := XV HR0.out (ji7) XfO XfP; cases XsT; replace BH := (HB.out.cell (World.block_lt_of_cell? w _ BH)).trans BH; replace BI := (HB.out.cell (World.block_lt_of_cell? w _ BI)).trans BI; replace BJ := (HB.out.cell (World.block_lt_of_cell? w _ BJ)).trans BJ; replace BK := (HB.out.cell (World.block_lt_of_cell? w _ BK)).trans BK; replace BL := (HB.out.cell (World.block_lt_of_cell? w _ BL)).trans BL; replace BM := (HB.out.cell (World.block_lt_of_cell? w _ BM)).trans BM; replace BN := (HB.out.cell (World.block_lt_of_cell? w _ BN)).trans BN; replace BO := (HB.out.cell (World.block_lt_of_cell? w _ BO)).trans BO; replace XfO := eq_true XfO; replace XfP := eq_true XfP))
              go_roundg k1
              case measure => have := HK1.out; omega
              case rel => exact ⟨(XfN), ((Xa l0 (ji7)).f6), (by first | rfl | (simp; done) | (simp only [← hji7] <;> (first | rfl | simp)) | (simp [*]; done)), H', ⟨zb54⟩, ⟨by (with_reducible repeat (first | apply Kd.Yf | apply Kd.Ym | apply Kd.Y3)); exact Xny.out⟩, ⟨zb4⟩⟩
            · rw [if_neg c9] at H
              exact absurd H (by simp)
          · rw [if_neg c8] at H
            exact absurd H (by simp)
        · rw [if_neg c6] at H
          exact absurd H (by simp)
def Vh.f (k : Nat) (l0 : List (S41)) (a1 : Int) : Option (List Int) := (Xq.f k l0).bind fun OW => (if OW = true then ((Zr.f k l0 a1).bind fun P9 => (some P9)) else (some ([] : List Int)))
set_option maxHeartbeats 8000000 in
set_option maxRecDepth 100000 in
theorem Vh.calls (k : Nat) (A0 : Option Addr) (c0 : Nat) (l0 : List (S41)) (a1 : Int) (r : List Int) (w : World) (hr0 : Kd.C k41 w A0 l0.length l0) (hc0 : l0.length ≤ c0) (h : Vh.f k l0 a1 = some r) :
    Calls Try.prog 59 #[.slice A0 l0.length c0, .int .i64 a1] w fun e w' => ∃ v0_ : Value, e = .returned (v0_) ∧ Kd.R (Kd.int .i64) 3 w' w.heap.size (fun _ => True) v0_ r ∧ Below w.heap.size w w' := by
  have HR0 := zz hr0; have HC0 := zz hc0; clear hr0 hc0; have HB := zz (Below.refl w.heap.size w); have H : ((Xq.f k l0).bind fun OW => (if OW = true then ((Zr.f k l0 a1).bind fun P9 => (some P9)) else (some ([] : List Int)))) = some r := h; clear h; replace H := Option.bind_eq_some_iff.mp H; obtain ⟨OW, A30, H⟩ := H; replace H : (if OW = true then ((Zr.f k l0 a1).bind fun P9 => (some P9)) else (some ([] : List Int))) = some r := H; have A3 := zz A30; clear A30
  by_cases c4 : OW = true
  · subst c4
    have H1 : ((Zr.f k l0 a1).bind fun P9 => (some P9)) = some r := by rw [if_pos rfl] at H; exact H
    clear H; have H := H1; clear H1; replace H := Option.bind_eq_some_iff.mp H; obtain ⟨P9, A50, H⟩ := H; replace H : (some P9) = some r := H; have A5 := zz A50; clear A50; obtain rfl := Option.some.inj H
    go_enter Try.func59, Try.ntmps59
    go_wp2_with (first | ((with_reducible refine Xg (f := 34) rfl ?_); refine Xz (some 6) rfl rfl Try.func34 zb14 rfl #[.slice A0 l0.length c0] rfl zb0 ?_; (with_reducible refine (Xq.calls k _ _ l0 true _ ?side1 ?side2 A3.out).mono ?_); (case side1 => exact zb17); (case side2 => exact HC0.out); rintro e w6 ⟨rfl, hb⟩; refine ⟨_, rfl, ?_⟩; have n0_ := zz (Xe zb4 hb); clear HB; have HB := n0_; clear n0_; (try clear hb); (try clear hb2); (try clear hk); (try clear hi)) | ((with_reducible refine Xg (f := 105) rfl ?_); refine Xz (some 10) rfl rfl Try.func105 zb14 rfl #[.slice A0 l0.length c0, .int .i64 a1] rfl zb0 ?_; (with_reducible refine (Zr.calls k _ _ l0 a1 P9 _ ?side1 ?side2 A5.out).mono ?_); (case side1 => exact zb15); (case side2 => exact HC0.out); rintro e w7 ⟨v1041, rfl, ho0, hb⟩; refine ⟨_, rfl, ?_⟩; have n0_ := zz (Kd.Ye ho0 (Xr zb4)); have n1_ := zz (Xe zb4 hb); clear HB; have Xnz := n0_; have HB := n1_; clear n0_ n1_; (try clear hb); (try clear hb2); (try clear hk); (try clear hi); (try clear ho0)))
    go_ret
    exact ⟨_, zb8, by (with_reducible repeat (first | apply Kd.Yf | apply Kd.Ym | apply Kd.Y3)); exact Xnz.out, zb4⟩
  · replace c4 := Bool.eq_false_iff.mpr c4
    subst c4
    have H1 : (some ([] : List Int)) = some r := by rw [if_neg (show ¬ (false = true) by decide)] at H; exact H
    clear H; have H := H1; clear H1; obtain rfl := Option.some.inj H
    go_enter Try.func59, Try.ntmps59
    go_wp2_with (first | ((with_reducible refine Xg (f := 34) rfl ?_); refine Xz (some 6) rfl rfl Try.func34 zb14 rfl #[.slice A0 l0.length c0] rfl zb0 ?_; (with_reducible refine (Xq.calls k _ _ l0 false _ ?side1 ?side2 A3.out).mono ?_); (case side1 => exact zb17); (case side2 => exact HC0.out); rintro e w8 ⟨rfl, hb⟩; refine ⟨_, rfl, ?_⟩; have n0_ := zz (Xe zb4 hb); clear HB; have HB := n0_; clear n0_; (try clear hb); (try clear hb2); (try clear hk); (try clear hi)))
    go_ret
    exact ⟨_, zb8, zb18, zb4⟩
end Go.Proofs.Ytcefiblpnegepaa.Pr
