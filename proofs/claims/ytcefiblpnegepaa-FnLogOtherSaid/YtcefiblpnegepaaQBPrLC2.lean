import Derived.Test.YtcefiblpnegepaaQBByq
import Derived.Test.YtcefiblpnegepaaQBWLogB
import Derived.Test.YtcefiblpnegepaaQBSx
import Derived.Test.YtcefiblpnegepaaQBLast
import Derived.Test.YtcefiblpnegepaaQBPrLO2
namespace Go.Proofs.Ytcefiblpnegepaa.Pr
open Go.RowKit Go.PW Go.PL Go.PM
attribute [local go_sem] Y3 Y4 YV YW Yk Yl Y5 Y6
set_option linter.unusedVariables false
set_option linter.unusedSimpArgs false
def X7.l0 : Nat → List (S41) → List Int → Int → Option (List Int)
  | 0, _, _, _ => none
  | k + 1, x0, x5, x6 => if x6 > 0 then (if x5.length < 17592186044416 then (if 0 ≤ (wrap64 (x6 - 1)) then (if (wrap64 (x6 - 1)) < (x0.length : Int) then (X7.l0 k x0 (x5 ++ [x6]) ((Xa x0 (wrap64 (x6 - 1))).f6)) else (none)) else (none)) else (none)) else (some x5)
def X7.f (k : Nat) (l0 : List (S41)) (a1 : Int) : Option (List Int) := (some (([] : List Int) : List Int)).bind fun MU => ((Xk.f k l0).bind fun TM => (if TM = true then ((Xu.f k l0 a1).bind fun NA => (X7.l0 k l0 MU NA)) else (some MU)))
set_option maxHeartbeats 8000000 in
set_option maxRecDepth 100000 in
theorem X7.calls (k : Nat) (A0 : Option Addr) (c0 : Nat) (l0 : List (S41)) (a1 : Int) (r : List Int) (w : World) (hr0 : Kd.C k41 w A0 l0.length l0) (hc0 : l0.length ≤ c0) (h : X7.f k l0 a1 = some r) :
    Calls Try.prog 58 #[.slice A0 l0.length c0, .int .i64 a1] w fun e w' => ∃ v0_ : Value, e = .returned (v0_) ∧ Kd.R (Kd.int .i64) 3 w' w.heap.size (fun _ => True) v0_ r ∧ Below w.heap.size w w' := by
  have HR0 := zz hr0; have HC0 := zz hc0; clear hr0 hc0; have HB := zz (Below.refl w.heap.size w); have H : ((some (([] : List Int) : List Int)).bind fun MU => ((Xk.f k l0).bind fun TM => (if TM = true then ((Xu.f k l0 a1).bind fun NA => (X7.l0 k l0 MU NA)) else (some MU)))) = some r := h; clear h
  obtain ⟨MU, hy1025⟩ : ∃ y_ : List Int, y_ = (([] : List Int)) := ⟨_, rfl⟩
  replace H : ((Xk.f k l0).bind fun TM => (if TM = true then ((Xu.f k l0 a1).bind fun NA => (X7.l0 k l0 MU NA)) else (some MU))) = some r := by first | (rw [hy1025]; with_reducible exact H) | (have H2_ := (Option.bind_some _ _).symm.trans H; rw [hy1025]; with_reducible exact H2_) | (have H2_ := (Option.bind_some _ _).symm.trans H; with_reducible exact H2_) | with_reducible exact H | (rw [hy1025]; exact H) | exact H
  have Ny1025 := zz hy1025; clear hy1025; replace H := Option.bind_eq_some_iff.mp H; obtain ⟨TM, A30, H⟩ := H; replace H : (if TM = true then ((Xu.f k l0 a1).bind fun NA => (X7.l0 k l0 MU NA)) else (some MU)) = some r := H; have A3 := zz A30; clear A30
  by_cases c4 : TM = true
  · subst c4
    have H1 : ((Xu.f k l0 a1).bind fun NA => (X7.l0 k l0 MU NA)) = some r := by rw [if_pos rfl] at H; exact H
    clear H; have H := H1; clear H1; replace H := Option.bind_eq_some_iff.mp H; obtain ⟨NA, A50, H⟩ := H; replace H : (X7.l0 k l0 MU NA) = some r := H; have A5 := zz A50; clear A50; have H' := zz H; clear H
    go_enter Try.func58, Try.ntmps58
    go_wp2_with (first | ((with_reducible refine XZ (N := 7) rfl ?_); refine Kd.Gb (Kd.int .i64) _ 3 ?hg (N := 7) ?hd (xs := ([] : List Int)) (inner := []) (ok := fun _ => True) (okp := fun _ => True) ?hr ?hp (fun _ hk => hk) trivial (Below.refl _ _) (Nat.le_refl _) (by simp) ?_; (case hd => rfl); (case hg => rfl); (case hr => exact zb21); (case hp => exact zb121); intro Xsv w6 ho7 hb hg_ hnew_; clear hg_ hnew_; (first | rw [← Ny1025.out] at ho7 | (simp only [Int.reduceToNat] at ho7; rw [← Ny1025.out] at ho7)); have n0_ := zz (Kd.XT ho7 (Xq zb5)); have n1_ := zz (Xe zb5 hb); clear HB; have Li := n0_; have HB := n1_; clear n0_ n1_; clear hb ho7) | ((with_reducible refine Xg (f := 32) rfl ?_); refine X6 (some 9) rfl rfl Try.func32 zb13 rfl #[.slice A0 l0.length c0] rfl zb0 ?_; (with_reducible refine (Xk.calls k _ _ l0 true _ ?side1 ?side2 A3.out).mono ?_); (case side1 => exact zb16); (case side2 => exact HC0.out); rintro e w8 ⟨rfl, hb⟩; refine ⟨_, rfl, ?_⟩; have n0_ := zz (Kd.Xz zb96 hb); have n1_ := zz (Xe zb5 hb); clear Li; clear HB; have Li := n0_; have HB := n1_; clear n0_ n1_; (try clear hb); (try clear hb2); (try clear hk); (try clear hi)) | ((with_reducible refine Xg (f := 84) rfl ?_); refine X6 (some 14) rfl rfl Try.func84 zb13 rfl #[.slice A0 l0.length c0, .int .i64 a1] rfl zb0 ?_; (with_reducible refine (Xu.calls k _ _ l0 a1 NA _ ?side1 ?side2 A5.out).mono ?_); (case side1 => exact zb16); (case side2 => exact HC0.out); rintro e w' ⟨rfl, ⟨nd, rfl⟩⟩; refine ⟨_, rfl, ?_⟩))
    go_loopg [5, 6] k (fun kq v5 v6 w' => ∃ (Yh : List Int) (JL : Int), v6 = .int .i64 JL ∧ Aside0 (X7.l0 kq l0 Yh JL = some r) ∧ Aside0 (kq ≤ k) ∧ Aside0 (Kd.R (Kd.int .i64) 3 w' w.heap.size (fun _ => True) v5 Yh) ∧ Aside0 (Below w.heap.size w w'))
    case atStart => exact ⟨(MU), (NA), zb12, H', ⟨Nat.le_refl _⟩, ⟨zb96⟩, ⟨zb5⟩⟩
    case round =>
      clear H'
      try clear p2
      try clear c3
      try clear c4
      try clear c5
      try clear c8
      obtain ⟨Yh, JL, rfl, HA, HK1, HO_5, HB⟩ := hrel
      cases gk with
      | zero => exact absurd HA.out (by simp [X7.l0])
      | succ k1 =>
        have H := HA.out; clear HA; simp only [X7.l0] at H
        by_cases c9 : JL > 0
        · rw [if_pos c9] at H
          have c9b0 : decide (0 < JL) = true := decide_eq_true c9; clear c9
          by_cases c10 : Yh.length < 17592186044416
          · rw [if_pos c10] at H
            have LMc10 := zz c10; clear c10
            obtain ⟨Xfn, hy1030⟩ : ∃ y_ : List Int, y_ = (Yh ++ [JL]) := ⟨_, rfl⟩
            replace H : (if 0 ≤ (wrap64 (JL - 1)) then (if (wrap64 (JL - 1)) < (l0.length : Int) then (X7.l0 k1 l0 Xfn ((Xa l0 (wrap64 (JL - 1))).f6)) else (none)) else (none)) = some r := by first | (rw [hy1030]; with_reducible exact H) | (have H2_ := (Option.bind_some _ _).symm.trans H; rw [hy1030]; with_reducible exact H2_) | (have H2_ := (Option.bind_some _ _).symm.trans H; with_reducible exact H2_) | with_reducible exact H | (rw [hy1030]; exact H) | exact H
            have Ny1030 := zz hy1030; clear hy1030
            obtain ⟨Rj, Xc3⟩ : ∃ j_ : Int, (wrap64 (JL - 1)) = j_ := ⟨_, rfl⟩
            replace H : (if 0 ≤ (Rj) then (if (Rj) < (l0.length : Int) then (X7.l0 k1 l0 Xfn ((Xa l0 (Rj)).f6)) else (none)) else (none)) = some r := by first | (rw [Xc3] at H; exact H) | (simp only [Xc3] at H ⊢; exact H)
            have hji11w : (IntKind.i64.wrap (JL - 1)) = Rj := (XG _).trans Xc3
            by_cases c12 : 0 ≤ (Rj)
            · rw [if_pos c12] at H
              have QG : decide (0 ≤ (Rj)) = true := decide_eq_true c12; clear c12
              by_cases c13 : (Rj) < (l0.length : Int)
              · rw [if_pos c13] at H
                have Xsw : decide ((Rj) < (l0.length : Int)) = true := decide_eq_true c13; clear c13; have H' := zz H; clear H
                go_wp2_with (first | ((with_reducible refine Zk (b := .append) (xs := #[.tmp 23, .tmp 25]) rfl ?_); at_builtin; refine Kd.Gv (Kd.int .i64) (w0 := w) w.heap.size rfl (.tmp 23) (.tmp 25) 23 3 (.int .i64 0) 8 rfl Try.underlying23 info3 rfl (by decide) (by omega) u5 Yh JL [.int .i64 JL] (fun _ => True) (fun _ => False) rfl rfl ?aP (fun _ hk => hk.elim) ?aF ?aO ?aB ?aS ?aL ?_; (case aP => exact rfl); (case aB => exact zb5); (case aF => exact zb139); (case aO => exact zb58); (case aS => exact (Xq zb5)); (case aL => have := LMc10.out; omega); intro v1031 w14 ho hb hg hat; rw [← Ny1030.out] at ho; have n0_ := zz (hb); have n1_ := zz (ho); clear HB; clear HO_5; have HB := n0_; have Xm6 := n1_; clear n0_ n1_; clear ho hb hg hat; have Xfo : 0 ≤ ((Rj) : Int) := of_decide_eq_true zb9; have Xfp : (Rj) < (l0.length : Int) := of_decide_eq_true zb9; obtain ⟨ad1033, Xsx, Cy, Cz, C8, C9, CB, CF, CG, CJ⟩ := YN HR0.out (Rj) Xfo Xfp; cases Xsx; replace Cy := (HB.out.cell (World.block_lt_of_cell? w _ Cy)).trans Cy; replace Cz := (HB.out.cell (World.block_lt_of_cell? w _ Cz)).trans Cz; replace C8 := (HB.out.cell (World.block_lt_of_cell? w _ C8)).trans C8; replace C9 := (HB.out.cell (World.block_lt_of_cell? w _ C9)).trans C9; replace CB := (HB.out.cell (World.block_lt_of_cell? w _ CB)).trans CB; replace CF := (HB.out.cell (World.block_lt_of_cell? w _ CF)).trans CF; replace CG := (HB.out.cell (World.block_lt_of_cell? w _ CG)).trans CG; replace CJ := (HB.out.cell (World.block_lt_of_cell? w _ CJ)).trans CJ; replace Xfo := eq_true Xfo; replace Xfp := eq_true Xfp))
                go_roundg k1
                case measure => have := HK1.out; omega
                case rel => exact ⟨(Xfn), ((Xa l0 (Rj)).f6), (by first | rfl | (simp; done) | (simp only [← Xc3] <;> (first | rfl | simp)) | (simp [*]; done)), H', ⟨zb61⟩, ⟨by (with_reducible repeat (first | apply Kd.XI | apply Kd.XJ | apply Kd.XR)); exact Xm6.out⟩, ⟨zb5⟩⟩
              · rw [if_neg c13] at H
                exact absurd H (by simp)
            · rw [if_neg c12] at H
              exact absurd H (by simp)
          · rw [if_neg c10] at H
            exact absurd H (by simp)
        · rw [if_neg c9] at H
          have c9b0 : decide (0 < JL) = false := decide_eq_false c9; clear c9; obtain rfl := Option.some.inj H
          go_wp2
          go_ret
          exact ⟨_, zb11, zb58, zb5⟩
  · replace c4 := Bool.eq_false_iff.mpr c4
    subst c4
    have H1 : (some MU) = some r := by rw [if_neg (show ¬ (false = true) by decide)] at H; exact H
    clear H; have H := H1; clear H1; obtain rfl := Option.some.inj H
    go_enter Try.func58, Try.ntmps58
    go_wp2_with (first | ((with_reducible refine XZ (N := 7) rfl ?_); refine Kd.Gb (Kd.int .i64) _ 3 ?hg (N := 7) ?hd (xs := ([] : List Int)) (inner := []) (ok := fun _ => True) (okp := fun _ => True) ?hr ?hp (fun _ hk => hk) trivial (Below.refl _ _) (Nat.le_refl _) (by simp) ?_; (case hd => rfl); (case hg => rfl); (case hr => exact zb21); (case hp => exact zb121); intro Xsv w15 ho16 hb hg_ hnew_; clear hg_ hnew_; (first | rw [← Ny1025.out] at ho16 | (simp only [Int.reduceToNat] at ho16; rw [← Ny1025.out] at ho16)); have n0_ := zz (Kd.XT ho16 (Xq zb5)); have n1_ := zz (Xe zb5 hb); clear HB; have Li := n0_; have HB := n1_; clear n0_ n1_; clear hb ho16) | ((with_reducible refine Xg (f := 32) rfl ?_); refine X6 (some 9) rfl rfl Try.func32 zb13 rfl #[.slice A0 l0.length c0] rfl zb0 ?_; (with_reducible refine (Xk.calls k _ _ l0 false _ ?side1 ?side2 A3.out).mono ?_); (case side1 => exact zb16); (case side2 => exact HC0.out); rintro e w17 ⟨rfl, hb⟩; refine ⟨_, rfl, ?_⟩; have n0_ := zz (Kd.Xz zb96 hb); have n1_ := zz (Xe zb5 hb); clear Li; clear HB; have Li := n0_; have HB := n1_; clear n0_ n1_; (try clear hb); (try clear hb2); (try clear hk); (try clear hi)))
    go_ret
    exact ⟨_, zb11, zb96, zb5⟩
def YD.l0 : Nat → List (S41) → List Int → Int → Option (List Int)
  | 0, _, _, _ => none
  | k + 1, x0, x5, x6 => if x6 = 0 then (some x5) else (if x5.length < 17592186044416 then (if 0 ≤ (wrap64 (x6 - 1)) then (if (wrap64 (x6 - 1)) < (x0.length : Int) then (YD.l0 k x0 (x5 ++ [x6]) ((Xa x0 (wrap64 (x6 - 1))).f6)) else (none)) else (none)) else (none))
def YD.f (k : Nat) (l0 : List (S41)) (a1 : Int) : Option (List Int) := (JQ.f k l0 a1).bind fun CK => (YD.l0 k l0 ([] : List Int) CK)
set_option maxHeartbeats 8000000 in
set_option maxRecDepth 100000 in
theorem YD.calls (k : Nat) (A0 : Option Addr) (c0 : Nat) (l0 : List (S41)) (a1 : Int) (r : List Int) (w : World) (hr0 : Kd.C k41 w A0 l0.length l0) (hc0 : l0.length ≤ c0) (h : YD.f k l0 a1 = some r) :
    Calls Try.prog 105 #[.slice A0 l0.length c0, .int .i64 a1] w fun e w' => ∃ v0_ : Value, e = .returned (v0_) ∧ Kd.R (Kd.int .i64) 3 w' w.heap.size (fun _ => True) v0_ r ∧ Below w.heap.size w w' := by
  have HR0 := zz hr0; have HC0 := zz hc0; clear hr0 hc0; have HB := zz (Below.refl w.heap.size w); have H : ((JQ.f k l0 a1).bind fun CK => (YD.l0 k l0 ([] : List Int) CK)) = some r := h; clear h; replace H := Option.bind_eq_some_iff.mp H; obtain ⟨CK, A30, H⟩ := H; replace H : (YD.l0 k l0 ([] : List Int) CK) = some r := H; have A3 := zz A30; clear A30; have H' := zz H; clear H
  go_enter Try.func105, Try.ntmps105
  go_wp2_with (first | ((with_reducible refine Xg (f := 87) rfl ?_); refine X6 (some 9) rfl rfl Try.func87 zb13 rfl #[.slice A0 l0.length c0, .int .i64 a1] rfl zb0 ?_; (with_reducible refine (JQ.calls k _ _ l0 a1 CK _ ?side1 ?side2 A3.out).mono ?_); (case side1 => exact zb23); (case side2 => exact HC0.out); rintro e w4 ⟨rfl, hb⟩; refine ⟨_, rfl, ?_⟩; have n0_ := zz (Xe zb5 hb); clear HB; have HB := n0_; clear n0_; (try clear hb); (try clear hb2); (try clear hk); (try clear hi)))
  go_loopg [5, 6] k (fun kq v5 v6 w' => ∃ (Yh : List Int) (JL : Int), v6 = .int .i64 JL ∧ Aside0 (YD.l0 kq l0 Yh JL = some r) ∧ Aside0 (kq ≤ k) ∧ Aside0 (Kd.R (Kd.int .i64) 3 w' w.heap.size (fun _ => True) v5 Yh) ∧ Aside0 (Below w.heap.size w w'))
  case atStart => exact ⟨(([] : List Int)), (CK), zb12, H', ⟨Nat.le_refl _⟩, ⟨zb20⟩, ⟨zb5⟩⟩
  case round =>
    clear H'
    try clear c1
    try clear p2
    obtain ⟨Yh, JL, rfl, HA, HK1, HO_5, HB⟩ := hrel
    cases gk with
    | zero => exact absurd HA.out (by simp [YD.l0])
    | succ k1 =>
      have H := HA.out; clear HA; simp only [YD.l0] at H
      by_cases c5 : JL = 0
      · rw [if_pos c5] at H
        have c5b0 : (JL == 0) = true := beq_iff_eq.mpr c5; have c5b1 : (JL != 0) = false := bne_eq_false_iff_eq.mpr c5; clear c5; obtain rfl := Option.some.inj H
        go_wp2
        go_ret
        exact ⟨_, zb11, zb58, zb5⟩
      · rw [if_neg c5] at H
        have c5b0 : (JL == 0) = false := beq_eq_false_iff_ne.mpr c5; have c5b1 : (JL != 0) = true := bne_iff_ne.mpr c5
        by_cases c6 : Yh.length < 17592186044416
        · rw [if_pos c6] at H
          have LMc6 := zz c6; clear c6
          obtain ⟨Xfq, hy1035⟩ : ∃ y_ : List Int, y_ = (Yh ++ [JL]) := ⟨_, rfl⟩
          replace H : (if 0 ≤ (wrap64 (JL - 1)) then (if (wrap64 (JL - 1)) < (l0.length : Int) then (YD.l0 k1 l0 Xfq ((Xa l0 (wrap64 (JL - 1))).f6)) else (none)) else (none)) = some r := by first | (rw [hy1035]; with_reducible exact H) | (have H2_ := (Option.bind_some _ _).symm.trans H; rw [hy1035]; with_reducible exact H2_) | (have H2_ := (Option.bind_some _ _).symm.trans H; with_reducible exact H2_) | with_reducible exact H | (rw [hy1035]; exact H) | exact H
          have Ny1035 := zz hy1035; clear hy1035
          obtain ⟨ji7, hji7⟩ : ∃ j_ : Int, (wrap64 (JL - 1)) = j_ := ⟨_, rfl⟩
          replace H : (if 0 ≤ (ji7) then (if (ji7) < (l0.length : Int) then (YD.l0 k1 l0 Xfq ((Xa l0 (ji7)).f6)) else (none)) else (none)) = some r := by first | (rw [hji7] at H; exact H) | (simp only [hji7] at H ⊢; exact H)
          have hji7w : (IntKind.i64.wrap (JL - 1)) = ji7 := (XG _).trans hji7
          by_cases c8 : 0 ≤ (ji7)
          · rw [if_pos c8] at H
            have c8b0 : decide (0 ≤ (ji7)) = true := decide_eq_true c8; clear c8
            by_cases c9 : (ji7) < (l0.length : Int)
            · rw [if_pos c9] at H
              have c9b0 : decide ((ji7) < (l0.length : Int)) = true := decide_eq_true c9; clear c9; have H' := zz H; clear H
              go_wp2_with (first | ((with_reducible refine Zk (b := .append) (xs := #[.tmp 18, .tmp 20]) rfl ?_); at_builtin; refine Kd.Gv (Kd.int .i64) (w0 := w) w.heap.size rfl (.tmp 18) (.tmp 20) 23 3 (.int .i64 0) 8 rfl Try.underlying23 info3 rfl (by decide) (by omega) u5 Yh JL [.int .i64 JL] (fun _ => True) (fun _ => False) rfl rfl ?aP (fun _ hk => hk.elim) ?aF ?aO ?aB ?aS ?aL ?_; (case aP => exact rfl); (case aB => exact zb5); (case aF => exact zb139); (case aO => exact zb58); (case aS => exact (Xq zb5)); (case aL => have := LMc6.out; omega); intro v1036 w10 ho hb hg hat; rw [← Ny1035.out] at ho; have n0_ := zz (hb); have n1_ := zz (ho); clear HB; clear HO_5; have HB := n0_; have Xm7 := n1_; clear n0_ n1_; clear ho hb hg hat; have Xfr : 0 ≤ ((ji7) : Int) := of_decide_eq_true zb9; have Xfs : (ji7) < (l0.length : Int) := of_decide_eq_true zb9; obtain ⟨ad1038, Xsy, CL, CO, CP, CS, CU, CV, CW, CX⟩ := YN HR0.out (ji7) Xfr Xfs; cases Xsy; replace CL := (HB.out.cell (World.block_lt_of_cell? w _ CL)).trans CL; replace CO := (HB.out.cell (World.block_lt_of_cell? w _ CO)).trans CO; replace CP := (HB.out.cell (World.block_lt_of_cell? w _ CP)).trans CP; replace CS := (HB.out.cell (World.block_lt_of_cell? w _ CS)).trans CS; replace CU := (HB.out.cell (World.block_lt_of_cell? w _ CU)).trans CU; replace CV := (HB.out.cell (World.block_lt_of_cell? w _ CV)).trans CV; replace CW := (HB.out.cell (World.block_lt_of_cell? w _ CW)).trans CW; replace CX := (HB.out.cell (World.block_lt_of_cell? w _ CX)).trans CX; replace Xfr := eq_true Xfr; replace Xfs := eq_true Xfs))
              go_roundg k1
              case measure => have := HK1.out; omega
              case rel => exact ⟨(Xfq), ((Xa l0 (ji7)).f6), (by first | rfl | (simp; done) | (simp only [← hji7] <;> (first | rfl | simp)) | (simp [*]; done)), H', ⟨zb61⟩, ⟨by (with_reducible repeat (first | apply Kd.XI | apply Kd.XJ | apply Kd.XR)); exact Xm7.out⟩, ⟨zb5⟩⟩
            · rw [if_neg c9] at H
              exact absurd H (by simp)
          · rw [if_neg c8] at H
            exact absurd H (by simp)
        · rw [if_neg c6] at H
          exact absurd H (by simp)
def XD.f (k : Nat) (l0 : List (S41)) (a1 : Int) : Option (List Int) := (Xw.f k l0).bind fun Ou => (if Ou = true then ((YD.f k l0 a1).bind fun Pj => (some Pj)) else (some ([] : List Int)))
set_option maxHeartbeats 8000000 in
set_option maxRecDepth 100000 in
theorem XD.calls (k : Nat) (A0 : Option Addr) (c0 : Nat) (l0 : List (S41)) (a1 : Int) (r : List Int) (w : World) (hr0 : Kd.C k41 w A0 l0.length l0) (hc0 : l0.length ≤ c0) (h : XD.f k l0 a1 = some r) :
    Calls Try.prog 59 #[.slice A0 l0.length c0, .int .i64 a1] w fun e w' => ∃ v0_ : Value, e = .returned (v0_) ∧ Kd.R (Kd.int .i64) 3 w' w.heap.size (fun _ => True) v0_ r ∧ Below w.heap.size w w' := by
  have HR0 := zz hr0; have HC0 := zz hc0; clear hr0 hc0; have HB := zz (Below.refl w.heap.size w); have H : ((Xw.f k l0).bind fun Ou => (if Ou = true then ((YD.f k l0 a1).bind fun Pj => (some Pj)) else (some ([] : List Int)))) = some r := h; clear h; replace H := Option.bind_eq_some_iff.mp H; obtain ⟨Ou, A30, H⟩ := H; replace H : (if Ou = true then ((YD.f k l0 a1).bind fun Pj => (some Pj)) else (some ([] : List Int))) = some r := H; have A3 := zz A30; clear A30
  by_cases c4 : Ou = true
  · subst c4
    have H1 : ((YD.f k l0 a1).bind fun Pj => (some Pj)) = some r := by rw [if_pos rfl] at H; exact H
    clear H; have H := H1; clear H1; replace H := Option.bind_eq_some_iff.mp H; obtain ⟨Pj, A50, H⟩ := H; replace H : (some Pj) = some r := H; have A5 := zz A50; clear A50; obtain rfl := Option.some.inj H
    go_enter Try.func59, Try.ntmps59
    go_wp2_with (first | ((with_reducible refine Xg (f := 34) rfl ?_); refine X6 (some 6) rfl rfl Try.func34 zb13 rfl #[.slice A0 l0.length c0] rfl zb0 ?_; (with_reducible refine (Xw.calls k _ _ l0 true _ ?side1 ?side2 A3.out).mono ?_); (case side1 => exact zb23); (case side2 => exact HC0.out); rintro e w6 ⟨rfl, hb⟩; refine ⟨_, rfl, ?_⟩; have n0_ := zz (Xe zb5 hb); clear HB; have HB := n0_; clear n0_; (try clear hb); (try clear hb2); (try clear hk); (try clear hi)) | ((with_reducible refine Xg (f := 105) rfl ?_); refine X6 (some 10) rfl rfl Try.func105 zb13 rfl #[.slice A0 l0.length c0, .int .i64 a1] rfl zb0 ?_; (with_reducible refine (YD.calls k _ _ l0 a1 Pj _ ?side1 ?side2 A5.out).mono ?_); (case side1 => exact zb16); (case side2 => exact HC0.out); rintro e w7 ⟨v1041, rfl, ho0, hb⟩; refine ⟨_, rfl, ?_⟩; have n0_ := zz (Kd.XT ho0 (Xq zb5)); have n1_ := zz (Xe zb5 hb); clear HB; have Xm8 := n0_; have HB := n1_; clear n0_ n1_; (try clear hb); (try clear hb2); (try clear hk); (try clear hi); (try clear ho0)))
    go_ret
    exact ⟨_, zb11, by (with_reducible repeat (first | apply Kd.XI | apply Kd.XJ | apply Kd.XR)); exact Xm8.out, zb5⟩
  · replace c4 := Bool.eq_false_iff.mpr c4
    subst c4
    have H1 : (some ([] : List Int)) = some r := by rw [if_neg (show ¬ (false = true) by decide)] at H; exact H
    clear H; have H := H1; clear H1; obtain rfl := Option.some.inj H
    go_enter Try.func59, Try.ntmps59
    go_wp2_with (first | ((with_reducible refine Xg (f := 34) rfl ?_); refine X6 (some 6) rfl rfl Try.func34 zb13 rfl #[.slice A0 l0.length c0] rfl zb0 ?_; (with_reducible refine (Xw.calls k _ _ l0 false _ ?side1 ?side2 A3.out).mono ?_); (case side1 => exact zb23); (case side2 => exact HC0.out); rintro e w8 ⟨rfl, hb⟩; refine ⟨_, rfl, ?_⟩; have n0_ := zz (Xe zb5 hb); clear HB; have HB := n0_; clear n0_; (try clear hb); (try clear hb2); (try clear hk); (try clear hi)))
    go_ret
    exact ⟨_, zb11, zb20, zb5⟩
end Go.Proofs.Ytcefiblpnegepaa.Pr
