import Derived.Test.YtphnphmbfogmlaaGreatQEByq
import Derived.Test.YtphnphmbfogmlaaGreatQEWMore
import Derived.Test.YtphnphmbfogmlaaGreatQEPrK
import Derived.Test.YtphnphmbfogmlaaGreatQESx
import Derived.Test.YtphnphmbfogmlaaGreatQEPrInts
import Derived.Test.YtphnphmbfogmlaaGreatQELast
import Derived.Test.YtphnphmbfogmlaaGreatQEPrLO2
namespace Go.Proofs.YtphnphmbfogmlaaGreat.Pr
open Go.RowKit Go.PW Go.PL Go.PM
attribute [local go_sem] YO YP Zm Zn Yv Yw YQ YS
set_option linter.unusedVariables false
set_option linter.unusedSimpArgs false
def Zv.l0 : Nat → List (S76) → List Int → Int → Option (List Int)
 | 0, _, _, _ => none
 | k + 1, x0, x5, x6 => if x6 = 0 then (some x5) else (if x5.length < 17592186044416 then (if 0 ≤ (wrap64 (x6 - 1)) then (if (wrap64 (x6 - 1)) < (x0.length : Int) then (Zv.l0 k x0 (x5 ++ [x6]) ((Xa x0 (wrap64 (x6 - 1))).f6)) else (none)) else (none)) else (none))
def Zv.f (k : Nat) (l0 : List (S76)) (a1 : Int) : Option (List Int) := (JE.f k l0 a1).bind fun XhC => (Zv.l0 k l0 ([] : List Int) XhC)
set_option maxHeartbeats 8000000 in
set_option maxRecDepth 100000 in
theorem Zv.calls (k : Nat) (A0 : Option Addr) (c0 : Nat) (l0 : List (S76)) (a1 : Int) (r : List Int) (w : World) (hr0 : Kd.C k76 w A0 l0.length l0) (hc0 : l0.length ≤ c0) (h : Zv.f k l0 a1 = some r) :
 Calls Tryz.prog 91 #[.slice A0 l0.length c0, .int .i64 a1] w fun e w' => ∃ v0_ : Value, e = .returned (v0_) ∧ Kd.R (Kd.int .i64) 3 w' w.heap.size (fun _ => True) v0_ r ∧ Below w.heap.size w w' := by
 have HR0 := az hr0; have HC0 := az hc0; clear hr0 hc0; have HB := az (Below.refl w.heap.size w); have H : ((JE.f k l0 a1).bind fun XhC => (Zv.l0 k l0 ([] : List Int) XhC)) = some r := h; clear h; replace H := Option.bind_eq_some_iff.mp H; obtain ⟨XhC, A30, H⟩ := H; replace H : (Zv.l0 k l0 ([] : List Int) XhC) = some r := H; have A3 := az A30; clear A30; have H' := az H; clear H
 go_enter Tryz.func91, Tryz.ntmps91
 go_wp2_with (first | ((with_reducible refine Xi (f := 89) rfl ?_); refine XI (some 9) rfl rfl Tryz.func89 zb9 rfl #[.slice A0 l0.length c0, .int .i64 a1] rfl zb2 ?_; (with_reducible refine (JE.calls k _ _ l0 a1 XhC _ ?side1 ?side2 A3.out).mono ?_); (case side1 => exact zb16); (case side2 => exact HC0.out); rintro e w4 ⟨rfl, hb⟩; refine ⟨_, rfl, ?_⟩; replace HB := az (Xc zb1 hb); (try clear hb); (try clear hb2); (try clear hk); (try clear hi)))
 go_loopg [5, 6] k (fun kq v5 v6 w' => ∃ (Xk : List Int) (Yn : Int), v6 = .int .i64 Yn ∧ Aside0 (Zv.l0 kq l0 Xk Yn = some r) ∧ Aside0 (kq ≤ k) ∧ Aside0 (Kd.R (Kd.int .i64) 3 w' w.heap.size (fun _ => True) v5 Xk) ∧ Aside0 (Below w.heap.size w w'))
 case atStart => exact ⟨(([] : List Int)), (XhC), zb6, H', ⟨Nat.le_refl _⟩, ⟨zb54⟩, ⟨zb1⟩⟩
 case round =>
  clear H';(try clear p2)
  obtain ⟨Xk, Yn, rfl, HA, HK1, HO_5, HB⟩ := hrel
  cases gk with
  | zero => exact absurd HA.out (by simp [Zv.l0])
  | succ k1 =>
   have H := HA.out; clear HA; simp only [Zv.l0] at H
   by_cases c5 : Yn = 0
   ·rw [if_pos c5] at H
    have c5b0 : (Yn == 0) = true := beq_iff_eq.mpr c5; have c5b1 : (Yn != 0) = false := bne_eq_false_iff_eq.mpr c5; clear c5; obtain rfl := Option.some.inj H
    go_wp2
    go_ret
    exact ⟨_, zb4, zb80, zb1⟩
   ·rw [if_neg c5] at H
    have c5b0 : (Yn == 0) = false := beq_eq_false_iff_ne.mpr c5; have c5b1 : (Yn != 0) = true := bne_iff_ne.mpr c5
    by_cases c6 : Xk.length < 17592186044416
    ·rw [if_pos c6] at H
     have LMc6 := az c6; clear c6
     obtain ⟨Xx4, hy350⟩ : ∃ y_ : List Int, y_ = (Xk ++ [Yn]) := ⟨_, rfl⟩
     replace H : (if 0 ≤ (wrap64 (Yn - 1)) then (if (wrap64 (Yn - 1)) < (l0.length : Int) then (Zv.l0 k1 l0 Xx4 ((Xa l0 (wrap64 (Yn - 1))).f6)) else (none)) else (none)) = some r := by first | (rw [hy350]; with_reducible exact H) | (have H2_ := (Option.bind_some _ _).symm.trans H; rw [hy350]; with_reducible exact H2_) | (have H2_ := (Option.bind_some _ _).symm.trans H; with_reducible exact H2_) | with_reducible exact H | (rw [hy350]; exact H) | exact H
     have Ny350 := az hy350; clear hy350
     obtain ⟨ji7, hji7⟩ : ∃ j_ : Int, (wrap64 (Yn - 1)) = j_ := ⟨_, rfl⟩
     replace H : (if 0 ≤ (ji7) then (if (ji7) < (l0.length : Int) then (Zv.l0 k1 l0 Xx4 ((Xa l0 (ji7)).f6)) else (none)) else (none)) = some r := by first | (rw [hji7] at H; exact H) | (simp only [hji7] at H ⊢; exact H)
     have hji7w : (IntKind.i64.wrap (Yn - 1)) = ji7 := (X9 _).trans hji7
     by_cases c8 : 0 ≤ (ji7)
     ·rw [if_pos c8] at H
      have c8b0 : decide (0 ≤ (ji7)) = true := decide_eq_true c8; clear c8
      by_cases c9 : (ji7) < (l0.length : Int)
      ·rw [if_pos c9] at H
       have c9b0 : decide ((ji7) < (l0.length : Int)) = true := decide_eq_true c9; clear c9; have H' := az H; clear H
       go_wp2_with (first | ((with_reducible refine JV (b := .append) (xs := #[.tmp 18, .tmp 20]) rfl ?_); at_builtin; refine Kd.Sv (Kd.int .i64) (w0 := w) w.heap.size rfl (.tmp 18) (.tmp 20) 37 3 (.int .i64 0) 8 rfl Tryz.underlying37 info3 rfl (by decide) (by omega) u5 Xk Yn [.int .i64 Yn] (fun _ => True) (fun _ => False) rfl rfl ?aP (fun _ hk => hk.elim) ?aF ?aO ?aB ?aS ?aL ?_; (case aP => exact rfl); (case aB => exact zb1); (case aF => exact (fun _ _ => trivial)); (case aO => exact zb80); (case aS => exact (Xv zb1)); (case aL => have := LMc6.out; omega); intro v351 w10 ho hb hg hat; rw [← Ny350.out] at ho; replace HB := az (hb); have X0l := az (ho); clear HO_5; clear ho hb hg hat; have Xx5 : 0 ≤ ((ji7) : Int) := of_decide_eq_true zb3; have Xx6 : (ji7) < (l0.length : Int) := of_decide_eq_true zb3; obtain ⟨ad353, e353, Xdg, Xdh, Xdi, Xdj, Xdk, Xdl, Xdm, Xdn⟩ := Yt HR0.out (ji7) Xx5 Xx6; cases e353; replace Xdg := (HB.out.cell (World.block_lt_of_cell? w _ Xdg)).trans Xdg; replace Xdh := (HB.out.cell (World.block_lt_of_cell? w _ Xdh)).trans Xdh; replace Xdi := (HB.out.cell (World.block_lt_of_cell? w _ Xdi)).trans Xdi; replace Xdj := (HB.out.cell (World.block_lt_of_cell? w _ Xdj)).trans Xdj; replace Xdk := (HB.out.cell (World.block_lt_of_cell? w _ Xdk)).trans Xdk; replace Xdl := (HB.out.cell (World.block_lt_of_cell? w _ Xdl)).trans Xdl; replace Xdm := (HB.out.cell (World.block_lt_of_cell? w _ Xdm)).trans Xdm; replace Xdn := (HB.out.cell (World.block_lt_of_cell? w _ Xdn)).trans Xdn; replace Xx5 := eq_true Xx5; replace Xx6 := eq_true Xx6))
       go_roundg k1
       case measure => have := HK1.out; omega
       case rel => exact ⟨(Xx4), ((Xa l0 (ji7)).f6), (by first | rfl | (simp; done) | (simp only [← hji7] <;> (first | rfl | simp)) | (simp [*]; done)), H', ⟨zb37⟩, ⟨by (with_reducible repeat (first | apply Kd.XU | apply Kd.XX | apply Kd.Yj)); exact X0l.out⟩, ⟨zb1⟩⟩
      ·rw [if_neg c9] at H
       exact absurd H (by simp)
     ·rw [if_neg c8] at H
      exact absurd H (by simp)
    ·rw [if_neg c6] at H
     exact absurd H (by simp)
end Go.Proofs.YtphnphmbfogmlaaGreat.Pr
