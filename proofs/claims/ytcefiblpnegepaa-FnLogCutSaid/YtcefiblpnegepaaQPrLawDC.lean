import Derived.Test.YtcefiblpnegepaaQByq
import Derived.Test.YtcefiblpnegepaaQPrK
import Derived.Test.YtcefiblpnegepaaQSq
import Derived.Test.YtcefiblpnegepaaQPrLogB
import Derived.Test.YtcefiblpnegepaaQLogP
import Derived.Test.YtcefiblpnegepaaQDLog
namespace Go.Proofs.Ytcefiblpnegepaa.Pr
open Go.RowKit Go.Proofs.YtcefiblpnegepaaW.PrintWords Go.Proofs.YtcefiblpnegepaaW.PrintLast Go.Proofs.YtcefiblpnegepaaW.PrintMore
attribute [local go_sem] max2_int min2_int max_two min_two max_three min_three max_four min_four
set_option linter.unusedVariables false
set_option linter.unusedSimpArgs false
mutual
def laws_FnLogCut.j0 : Nat → List Int → List Int → Bool → Option (Bool)
 | 0, _, _, _ => none
 | k + 1, x0, x1, x15 => if x15 = true then (some true) else ((spec_DrawLogOk.f k x0).bind fun t218 => ((impl_LogOk.f k t218).bind fun t221 => ((spec_LogOk.f k t218).bind fun t222 => (if (t221 != t222) = true then (laws_FnLogCut.j1 k x1 t218 t221 true) else (laws_FnLogCut.j1 k x1 t218 t221 (!t221))))))
def laws_FnLogCut.j1 : Nat → List Int → List (S41) → Bool → Bool → Option (Bool)
 | 0, _, _, _, _ => none
 | k + 1, x1, x5, x6, x27 => if x27 = true then ((spec_LogOk.f k x5).bind fun t223 => (some (x6 == t223))) else (if (wrap64 ((x5.length : Int) + 1)) = 0 then (none) else (if 0 ≤ ((x1.length : Int) % (wrap64 ((x5.length : Int) + 1))) then (if ((x1.length : Int) % (wrap64 ((x5.length : Int) + 1))) ≤ (x5.length : Int) then ((impl_LogOk.f k (x5.take (((x1.length : Int) % (wrap64 ((x5.length : Int) + 1))) : Int).toNat)).bind fun t228 => (if t228 = true then ((impl_LogOk.f k ([] : List (S41))).bind fun t229 => (laws_FnLogCut.j2 k x5 (!t229))) else (laws_FnLogCut.j2 k x5 true))) else (none)) else (none)))
def laws_FnLogCut.j2 : Nat → List (S41) → Bool → Option (Bool)
 | 0, _, _ => none
 | k + 1, x5, x45 => if x45 = true then (some false) else (laws_FnLogCut.l0 k x5 1)
def laws_FnLogCut.l0 : Nat → List (S41) → Int → Option (Bool)
 | 0, _, _ => none
 | k + 1, x5, x7 => if x7 < (x5.length : Int) then (if 0 ≤ x7 then (if ((rd_T41 x5 x7).f6) = 1 then (if 1 ≤ (x5.length : Int) then ((impl_LogOk.f k (x5.drop 1)).bind fun t235 => (some (!t235))) else (none)) else (laws_FnLogCut.l0 k x5 (wrap64 (x7 + 1)))) else (none)) else (some true)
end
def laws_FnLogCut.f (k : Nat) (l0 : List Int) (l1 : List Int) : Option (Bool) := if (l0.length : Int) > 1048576 then (laws_FnLogCut.j0 k l0 l1 true) else (laws_FnLogCut.j0 k l0 l1 (decide ((l1.length : Int) > 1048576)))
set_option maxHeartbeats 8000000 in
set_option maxRecDepth 100000 in
theorem laws_FnLogCut.calls (k : Nat) (A0 : Option Addr) (c0 : Nat) (l0 : List Int) (A1 : Option Addr) (c1 : Nat) (l1 : List Int) (r : Bool) (w : World) (hr0 : Kd.C (Kd.int .u8) w A0 l0.length l0) (hc0 : l0.length ≤ c0) (hr1 : Kd.C (Kd.int .u8) w A1 l1.length l1) (hc1 : l1.length ≤ c1) (h : laws_FnLogCut.f k l0 l1 = some r) :
  Calls Try.prog 16 #[.slice A0 l0.length c0, .slice A1 l1.length c1] w fun e w' => e = .returned (.bool r) ∧ Below w.heap.size w w' := by
 have HR0 := az hr0; have HC0 := az hc0; clear hr0 hc0; have HR1 := az hr1; have HC1 := az hc1; clear hr1 hc1; have HB := az (Below.refl w.heap.size w); have H : (if (l0.length : Int) > 1048576 then (laws_FnLogCut.j0 k l0 l1 true) else (laws_FnLogCut.j0 k l0 l1 (decide ((l1.length : Int) > 1048576)))) = some r := h; clear h; have HC3 := az H; clear H
 go_enter Try.func16, Try.ntmps16
 go_upto_region 1 with (fail)
 go_cut [15] (fun v15 wc => ∃ (kq : Nat) (x15_2 : Bool), v15 = .bool x15_2 ∧ Aside0 (laws_FnLogCut.j0 kq l0 l1 x15_2 = some r) ∧ Aside0 (kq ≤ k) ∧ Aside0 (Below w.heap.size w wc))
 case first =>
  have H := HC3.out; clear HC3
  by_cases c4 : (l0.length : Int) > 1048576
  ·rw [if_pos c4] at H
   have c4b0 : decide (1048576 < (l0.length : Int)) = true := decide_eq_true c4; have c4b1 : decide (1048576 < l0.length) = true := decide_eq_true (by omega); clear c4
   (first | rw [c4b0] | (simp only [i64_w, i32_w]; rw [c4b0]) | skip)
   have H' := az H; clear H
   go_wp2
   go_meet
   case rel => exact ⟨_, (true), zb15, H', ⟨zb60⟩, ⟨zb7⟩⟩
  ·rw [if_neg c4] at H
   have c4b0 : decide (1048576 < (l0.length : Int)) = false := decide_eq_false c4; have c4b1 : decide (1048576 < l0.length) = false := decide_eq_false (by omega); clear c4
   (first | rw [c4b0] | (simp only [i64_w, i32_w]; rw [c4b0]) | skip)
   have H' := az H; clear H
   go_wp2
   go_meet
   case rel => exact ⟨_, (decide ((l1.length : Int) > 1048576)), zb15, H', ⟨zb60⟩, ⟨zb7⟩⟩
 case rest =>
  clear HC3;(try clear c1);(try clear p2);(try clear c4);(try clear c4b0);(try clear c4b1)
  obtain ⟨kq, x15_2, rfl, HA, HJ2, HB⟩ := hcut
  cases kq with
  | zero => exact absurd HA.out (by simp [laws_FnLogCut.j0])
  | succ kj2 =>
   have H := HA.out; clear HA; simp only [laws_FnLogCut.j0] at H
   by_cases c5 : x15_2 = true
   ·subst c5
    have H1 : (some true) = some r := by rw [if_pos rfl] at H; exact H
    clear H; have H := H1; clear H1; obtain rfl := Option.some.inj H
    go_wp2
    go_ret
    exact ⟨zb11, zb7⟩
   ·replace c5 := Bool.eq_false_iff.mpr c5
    subst c5
    have H1 : ((spec_DrawLogOk.f kj2 l0).bind fun t218 => ((impl_LogOk.f kj2 t218).bind fun t221 => ((spec_LogOk.f kj2 t218).bind fun t222 => (if (t221 != t222) = true then (laws_FnLogCut.j1 kj2 l1 t218 t221 true) else (laws_FnLogCut.j1 kj2 l1 t218 t221 (!t221)))))) = some r := by rw [if_neg (show ¬ (false = true) by decide)] at H; exact H
    clear H; have H := H1; clear H1; replace H := Option.bind_eq_some_iff.mp H; obtain ⟨t218, A60, H⟩ := H; replace H : ((impl_LogOk.f kj2 t218).bind fun t221 => ((spec_LogOk.f kj2 t218).bind fun t222 => (if (t221 != t222) = true then (laws_FnLogCut.j1 kj2 l1 t218 t221 true) else (laws_FnLogCut.j1 kj2 l1 t218 t221 (!t221))))) = some r := H; have A6 := az A60; clear A60; replace H := Option.bind_eq_some_iff.mp H; obtain ⟨t221, A70, H⟩ := H; replace H : ((spec_LogOk.f kj2 t218).bind fun t222 => (if (t221 != t222) = true then (laws_FnLogCut.j1 kj2 l1 t218 t221 true) else (laws_FnLogCut.j1 kj2 l1 t218 t221 (!t221)))) = some r := H; have A7 := az A70; clear A70; have HC8 := az H; clear H
    go_upto_region 5 with (first | ((with_reducible refine gate_callee (f := 67) rfl ?_); refine goesL_ (some 17) rfl rfl Try.func67 zb14 rfl #[.slice A0 l0.length c0] rfl zb3 ?_; (with_reducible refine (spec_DrawLogOk.calls kj2 _ _ l0 t218 _ ?side1 ?side2 A6.out).mono ?_); (case side1 => exact zb50); (case side2 => exact HC0.out); rintro e w9 ⟨v219, rfl, ho0, hb⟩; refine ⟨_, rfl, ?_⟩; have HO220 := az (Kd.Q_lower ho0 (below_size zb7)); replace HB := az (below_step zb7 hb); (try clear hb); (try clear hb2); (try clear hk); (try clear hi); (try clear ho0); obtain ⟨Ao10, co10, eo10, _⟩ := Kd.Q_slice HO220.out; subst eo10) | ((with_reducible refine gate_callee (f := 34) rfl ?_); refine goesL_ (some 19) rfl rfl Try.func34 zb14 rfl #[.slice Ao10 t218.length co10] rfl zb3 ?_; (with_reducible refine (impl_LogOk.calls kj2 _ _ t218 t221 _ ?side1 ?side2 A7.out).mono ?_); (case side1 => exact zb68); (case side2 => exact (Kd.Q_reads' HO220.out).2.1); rintro e w11 ⟨rfl, hb⟩; refine ⟨_, rfl, ?_⟩; replace HO220 := az (Kd.Q_below zb57 hb); replace HB := az (below_step zb7 hb); (try clear hb); (try clear hb2); (try clear hk); (try clear hi)))
    (try simp only [Act.put, List.setIfInBounds_toArray, List.set_cons_zero, List.set_cons_succ])
    go_cut [27] (fun v27 wc => ∃ (kq : Nat) (x27_7 : Bool), v27 = .bool x27_7 ∧ Aside0 (laws_FnLogCut.j1 kq l1 t218 t221 x27_7 = some r) ∧ Aside0 (kq ≤ kj2) ∧ Aside0 (Kd.Q k41 41 wc w.heap.size (fun _ => True) (.slice Ao10 t218.length co10) t218) ∧ Aside0 (Below w.heap.size w wc))
    case first =>
     have H := HC8.out; clear HC8; replace H := Option.bind_eq_some_iff.mp H; obtain ⟨t222, A120, H⟩ := H; replace H : (if (t221 != t222) = true then (laws_FnLogCut.j1 kj2 l1 t218 t221 true) else (laws_FnLogCut.j1 kj2 l1 t218 t221 (!t221))) = some r := H; have A12 := az A120; clear A120
     by_cases c13 : (t221 != t222) = true
     ·rw [if_pos c13] at H
      have c13b0 : (t221 != t222) = true := c13
      (try (have c13b1 : decide (t221 = t222) = false := by simpa using c13))
      (try (have c13b2 : (t221 == t222) = false := by simpa using c13))
      (try (have c13b3 : ¬ (t221 = t222) := by simpa using c13))
      clear c13
      (first | rw [c13b0] | (simp only [i64_w, i32_w]; rw [c13b0]) | skip)
      have H' := az H; clear H
      go_wp2_with (first | ((with_reducible refine gate_callee (f := 32) rfl ?_); refine goesL_ (some 22) rfl rfl Try.func32 zb14 rfl #[.slice Ao10 t218.length co10] rfl zb3 ?_; (with_reducible refine (spec_LogOk.calls kj2 _ _ t218 t222 _ ?side1 ?side2 A12.out).mono ?_); (case side1 => exact zb68); (case side2 => exact (Kd.Q_reads' HO220.out).2.1); rintro e w14 ⟨rfl, hb⟩; refine ⟨_, rfl, ?_⟩; replace HO220 := az (Kd.Q_below zb57 hb); replace HB := az (below_step zb7 hb); (try clear hb); (try clear hb2); (try clear hk); (try clear hi)))
      go_meet
      case rel => exact ⟨_, (true), zb15, H', ⟨by have := HJ2.out; first | omega | exact Nat.le_refl _⟩, ⟨zb57⟩, ⟨zb7⟩⟩
     ·rw [if_neg c13] at H
      have c13b0 : (t221 != t222) = false := by simpa using c13
      (try (have c13b1 : decide (t221 = t222) = true := by simpa using c13))
      (try (have c13b2 : (t221 == t222) = true := by simpa using c13))
      clear c13
      (first | rw [c13b0] | (simp only [i64_w, i32_w]; rw [c13b0]) | skip)
      have H' := az H; clear H
      go_wp2_with (first | ((with_reducible refine gate_callee (f := 32) rfl ?_); refine goesL_ (some 22) rfl rfl Try.func32 zb14 rfl #[.slice Ao10 t218.length co10] rfl zb3 ?_; (with_reducible refine (spec_LogOk.calls kj2 _ _ t218 t222 _ ?side1 ?side2 A12.out).mono ?_); (case side1 => exact zb68); (case side2 => exact (Kd.Q_reads' HO220.out).2.1); rintro e w15 ⟨rfl, hb⟩; refine ⟨_, rfl, ?_⟩; replace HO220 := az (Kd.Q_below zb57 hb); replace HB := az (below_step zb7 hb); (try clear hb); (try clear hb2); (try clear hk); (try clear hi)))
      go_meet
      case rel => exact ⟨_, (!t221), zb15, H', ⟨by have := HJ2.out; first | omega | exact Nat.le_refl _⟩, ⟨zb57⟩, ⟨zb7⟩⟩
    case rest =>
     clear HC8;(try clear c1);(try clear p2);(try clear c3);(try clear c4);(try clear c4b0);(try clear c4b1);(try clear c5);(try clear c6);(try clear c13);(try clear c13b0);(try clear c13b1);(try clear c13b2);(try clear p2)
     obtain ⟨kq, x27_7, rfl, HA, HJ7, HO_5, HB⟩ := hcut
     cases kq with
     | zero => exact absurd HA.out (by simp [laws_FnLogCut.j1])
     | succ kj7 =>
      have H := HA.out; clear HA; simp only [laws_FnLogCut.j1] at H
      by_cases c16 : x27_7 = true
      ·subst c16
       have H1 : ((spec_LogOk.f kj7 t218).bind fun t223 => (some (t221 == t223))) = some r := by rw [if_pos rfl] at H; exact H
       clear H; have H := H1; clear H1; replace H := Option.bind_eq_some_iff.mp H; obtain ⟨t223, A170, H⟩ := H; replace H : (some (t221 == t223)) = some r := H; have A17 := az A170; clear A170; obtain rfl := Option.some.inj H
       go_wp2_with (first | ((with_reducible refine gate_callee (f := 32) rfl ?_); refine goesL_ (some 30) rfl rfl Try.func32 zb14 rfl #[.slice Ao10 t218.length co10] rfl zb3 ?_; (with_reducible refine (spec_LogOk.calls kj7 _ _ t218 t223 _ ?side1 ?side2 A17.out).mono ?_); (case side1 => repeat (first | exact (Kd.Q_reads' HO_5.out).2.2 | (with_reducible refine Kd.C_alloc ?_ _) | (with_reducible refine Kd.C_drewN ?_ _) | (with_reducible refine Kd.C_drew ?_))); (case side2 => exact (Kd.Q_reads' HO_5.out).2.1); rintro e w18 ⟨rfl, hb⟩; refine ⟨_, rfl, ?_⟩; replace HO_5 := az (Kd.Q_below zb36 hb); replace HB := az (below_step zb7 hb); (try clear hb); (try clear hb2); (try clear hk); (try clear hi)))
       go_ret
       exact ⟨zb11, zb7⟩
      ·replace c16 := Bool.eq_false_iff.mpr c16
       subst c16
       have H1 : (if (wrap64 ((t218.length : Int) + 1)) = 0 then (none) else (if 0 ≤ ((l1.length : Int) % (wrap64 ((t218.length : Int) + 1))) then (if ((l1.length : Int) % (wrap64 ((t218.length : Int) + 1))) ≤ (t218.length : Int) then ((impl_LogOk.f kj7 (t218.take (((l1.length : Int) % (wrap64 ((t218.length : Int) + 1))) : Int).toNat)).bind fun t228 => (if t228 = true then ((impl_LogOk.f kj7 ([] : List (S41))).bind fun t229 => (laws_FnLogCut.j2 kj7 t218 (!t229))) else (laws_FnLogCut.j2 kj7 t218 true))) else (none)) else (none))) = some r := by rw [if_neg (show ¬ (false = true) by decide)] at H; exact H
       clear H; have H := H1; clear H1; have HC19 := az H; clear H
       go_upto_region 7 with (fail)
       go_cut [45] (fun v45 wc => ∃ (kq : Nat) (x45_18 : Bool), v45 = .bool x45_18 ∧ Aside0 (laws_FnLogCut.j2 kq t218 x45_18 = some r) ∧ Aside0 (kq ≤ kj7) ∧ Aside0 (Kd.Q k41 41 wc w.heap.size (fun _ => True) (.slice Ao10 t218.length co10) t218) ∧ Aside0 (Below w.heap.size w wc))
       case first =>
        have H := HC19.out; clear HC19
        by_cases c20 : (wrap64 ((t218.length : Int) + 1)) = 0
        ·rw [if_pos c20] at H
         exact absurd H (by simp)
        ·rw [if_neg c20] at H
         have c20b0 : ((wrap64 ((t218.length : Int) + 1)) == 0) = false := beq_eq_false_iff_ne.mpr c20; have c20b1 : ((wrap64 ((t218.length : Int) + 1)) != 0) = true := bne_iff_ne.mpr c20
         (first | rw [c20b0] | (simp only [i64_w, i32_w]; rw [c20b0]) | skip)
         obtain ⟨ji21, hji21⟩ : ∃ j_ : Int, ((l1.length : Int) % (wrap64 ((t218.length : Int) + 1))) = j_ := ⟨_, rfl⟩
         replace H : (if 0 ≤ (ji21) then (if (ji21) ≤ (t218.length : Int) then ((impl_LogOk.f kj7 (t218.take ((ji21) : Int).toNat)).bind fun t228 => (if t228 = true then ((impl_LogOk.f kj7 ([] : List (S41))).bind fun t229 => (laws_FnLogCut.j2 kj7 t218 (!t229))) else (laws_FnLogCut.j2 kj7 t218 true))) else (none)) else (none)) = some r := by first | (rw [hji21] at H; exact H) | (simp only [hji21] at H ⊢; exact H)
         by_cases c22 : 0 ≤ (ji21)
         ·rw [if_pos c22] at H
          have c22b0 := eq_true c22; have c22b1 : decide (0 ≤ (ji21)) = true := decide_eq_true c22; clear c22
          by_cases c23 : (ji21) ≤ (t218.length : Int)
          ·rw [if_pos c23] at H
           have c23b0 := eq_true c23; have c23b1 : decide ((ji21) ≤ (t218.length : Int)) = true := decide_eq_true c23; clear c23
           obtain ⟨y224, hy224⟩ : ∃ y_ : List (S41), y_ = (t218.take ((ji21) : Int).toNat) := ⟨_, rfl⟩
           replace H : ((impl_LogOk.f kj7 y224).bind fun t228 => (if t228 = true then ((impl_LogOk.f kj7 ([] : List (S41))).bind fun t229 => (laws_FnLogCut.j2 kj7 t218 (!t229))) else (laws_FnLogCut.j2 kj7 t218 true))) = some r := by first | (rw [hy224]; with_reducible exact H) | (have H2_ := (Option.bind_some _ _).symm.trans H; rw [hy224]; with_reducible exact H2_) | (have H2_ := (Option.bind_some _ _).symm.trans H; with_reducible exact H2_) | with_reducible exact H | (rw [hy224]; exact H) | exact H
           have Ny224 := az hy224; clear hy224; replace H := Option.bind_eq_some_iff.mp H; obtain ⟨t228, A240, H⟩ := H; replace H : (if t228 = true then ((impl_LogOk.f kj7 ([] : List (S41))).bind fun t229 => (laws_FnLogCut.j2 kj7 t218 (!t229))) else (laws_FnLogCut.j2 kj7 t218 true)) = some r := H; have A24 := az A240; clear A240
           by_cases c25 : t228 = true
           ·subst c25
            have H1 : ((impl_LogOk.f kj7 ([] : List (S41))).bind fun t229 => (laws_FnLogCut.j2 kj7 t218 (!t229))) = some r := by rw [if_pos rfl] at H; exact H
            clear H; have H := H1; clear H1; replace H := Option.bind_eq_some_iff.mp H; obtain ⟨t229, A260, H⟩ := H; replace H : (laws_FnLogCut.j2 kj7 t218 (!t229)) = some r := H; have A26 := az A260; clear A260; have H' := az H; clear H; have q27 : ((ji21) : Int) ≤ ((t218.length : Int) : Int) := of_decide_eq_true zb10; obtain ⟨i027, hi027, _, hsz27, _⟩ := info_parts info41; have hroom27 : t218.length ≤ co10 := (Kd.Q_reads' HO_5.out).2.1; have hC27 : Kd.C k41 _ Ao10 t218.length t218 := (Kd.Q_reads' HO_5.out).2.2; have hcut27 := cut_to (P := Try.prog) 34 41 .i64 Try.underlying34 hi027 Ao10 t218.length co10 (ji21) (of_decide_eq_true zb10) q27 hroom27; have hr27 := Kd.C_take (m := ((ji21) : Int).toNat) hC27 (by omega)
            have hy27 : y224.length = ((ji21) : Int).toNat := (by rw [Ny224.out, List.length_take]; omega)
            rw [← Ny224.out] at hr27; rw [← hy27] at hcut27; have HR227 := az hr27; have HC227 := az (show y224.length ≤ co10 from by omega); clear hr27 hC27 hroom27 hi027 hsz27; have KY27 := az hy27; clear hy27; have KL27 := az (show ((ji21) : Int).toNat ≤ t218.length from by omega); replace q27 := eq_true q27
            go_wp2_with (first | ((with_reducible refine gate_callee (f := 34) rfl ?_); refine goesL_ (some 40) rfl rfl Try.func34 zb14 rfl #[.slice Ao10 y224.length co10] rfl zb3 ?_; (with_reducible refine (impl_LogOk.calls kj7 _ _ y224 true _ ?side1 ?side2 A24.out).mono ?_); (case side1 => exact zb116); (case side2 => exact HC227.out); rintro e w28 ⟨rfl, hb⟩; refine ⟨_, rfl, ?_⟩; replace HO_5 := az (Kd.Q_below zb36 hb); replace HR227 := az (Kd.C_below zb38 hb); replace HB := az (below_step zb7 hb); (try clear hb); (try clear hb2); (try clear hk); (try clear hi)) | (go_at_call 34; (refine (impl_LogOk.calls kj7 _ _ ([] : List (S41)) t229 _ ?side1 ?side2 A26.out).mono ?_); (case side1 => exact Kd.C_nil _ _); (case side2 => exact Nat.le_refl _); rintro e w29 ⟨rfl, hb⟩; replace HO_5 := az (Kd.Q_below zb36 hb); replace HR227 := az (Kd.C_below zb38 hb); replace HB := az (below_step zb7 hb); (try clear hb); (try clear hb2); (try clear hk); (try clear hi)))
            go_meet
            case rel => exact ⟨_, (!t229), zb15, H', ⟨by have := HJ2.out; have := HJ7.out; first | omega | exact Nat.le_refl _⟩, ⟨zb36⟩, ⟨zb7⟩⟩
           ·replace c25 := Bool.eq_false_iff.mpr c25
            subst c25
            have H1 : (laws_FnLogCut.j2 kj7 t218 true) = some r := by rw [if_neg (show ¬ (false = true) by decide)] at H; exact H
            clear H; have H := H1; clear H1; have H' := az H; clear H; have q30 : ((ji21) : Int) ≤ ((t218.length : Int) : Int) := of_decide_eq_true zb10; obtain ⟨i030, hi030, _, hsz30, _⟩ := info_parts info41; have hroom30 : t218.length ≤ co10 := (Kd.Q_reads' HO_5.out).2.1; have hC30 : Kd.C k41 _ Ao10 t218.length t218 := (Kd.Q_reads' HO_5.out).2.2; have hcut30 := cut_to (P := Try.prog) 34 41 .i64 Try.underlying34 hi030 Ao10 t218.length co10 (ji21) (of_decide_eq_true zb10) q30 hroom30; have hr30 := Kd.C_take (m := ((ji21) : Int).toNat) hC30 (by omega)
            have hy30 : y224.length = ((ji21) : Int).toNat := (by rw [Ny224.out, List.length_take]; omega)
            rw [← Ny224.out] at hr30; rw [← hy30] at hcut30; have HR227 := az hr30; have HC227 := az (show y224.length ≤ co10 from by omega); clear hr30 hC30 hroom30 hi030 hsz30; have KY30 := az hy30; clear hy30; have KL30 := az (show ((ji21) : Int).toNat ≤ t218.length from by omega); replace q30 := eq_true q30
            go_wp2_with (first | ((with_reducible refine gate_callee (f := 34) rfl ?_); refine goesL_ (some 40) rfl rfl Try.func34 zb14 rfl #[.slice Ao10 y224.length co10] rfl zb3 ?_; (with_reducible refine (impl_LogOk.calls kj7 _ _ y224 false _ ?side1 ?side2 A24.out).mono ?_); (case side1 => exact zb116); (case side2 => exact HC227.out); rintro e w31 ⟨rfl, hb⟩; refine ⟨_, rfl, ?_⟩; replace HO_5 := az (Kd.Q_below zb36 hb); replace HR227 := az (Kd.C_below zb38 hb); replace HB := az (below_step zb7 hb); (try clear hb); (try clear hb2); (try clear hk); (try clear hi)))
            go_meet
            case rel => exact ⟨_, (true), zb15, H', ⟨by have := HJ2.out; have := HJ7.out; first | omega | exact Nat.le_refl _⟩, ⟨zb36⟩, ⟨zb7⟩⟩
          ·rw [if_neg c23] at H
           exact absurd H (by simp)
         ·rw [if_neg c22] at H
          exact absurd H (by simp)
       case rest =>
        clear HC19;(try clear c1);(try clear c2);(try clear p2);(try clear q2);(try clear c3);(try clear q3);(try clear c4);(try clear c4b0);(try clear c4b1);(try clear c5);(try clear c6);(try clear p6);(try clear c13);(try clear c13b0);(try clear c13b1);(try clear c13b2);(try clear c16);(try clear c20);(try clear c20b0);(try clear c20b1);(try clear c22);(try clear c22b0);(try clear c22b1);(try clear c23);(try clear c23b0);(try clear c23b1);(try clear c25);(try clear q27);(try clear q30);(try clear p2);(try clear q27);(try clear q30)
        obtain ⟨kq, x45_18, rfl, HA, HJ18, HO_5, HB⟩ := hcut
        cases kq with
        | zero => exact absurd HA.out (by simp [laws_FnLogCut.j2])
        | succ kj18 =>
         have H := HA.out; clear HA; simp only [laws_FnLogCut.j2] at H
         by_cases c32 : x45_18 = true
         ·subst c32
          have H1 : (some false) = some r := by rw [if_pos rfl] at H; exact H
          clear H; have H := H1; clear H1; obtain rfl := Option.some.inj H
          go_wp2
          go_ret
          exact ⟨zb11, zb7⟩
         ·replace c32 := Bool.eq_false_iff.mpr c32
          subst c32
          have H1 : (laws_FnLogCut.l0 kj18 t218 1) = some r := by rw [if_neg (show ¬ (false = true) by decide)] at H; exact H
          clear H; have H := H1; clear H1; have H' := az H; clear H
          go_wp2
          go_loopg [7] kj18 (fun kq v7 w' => ∃ (x7_4 : Int), v7 = .int .i64 x7_4 ∧ Aside0 (laws_FnLogCut.l0 kq t218 x7_4 = some r) ∧ Aside0 (kq ≤ kj18) ∧ Aside0 (Kd.Q k41 41 w' w.heap.size (fun _ => True) (.slice Ao10 t218.length co10) t218) ∧ Aside0 (Below w.heap.size w w'))
          case atStart => exact ⟨(1), zb15, H', ⟨Nat.le_refl _⟩, ⟨zb36⟩, ⟨zb7⟩⟩
          case round =>
           clear H';(try clear c1);(try clear c2);(try clear p2);(try clear q2);(try clear c3);(try clear q3);(try clear c4);(try clear c4b0);(try clear c4b1);(try clear c5);(try clear c6);(try clear p6);(try clear c13);(try clear c13b0);(try clear c13b1);(try clear c13b2);(try clear c16);(try clear c20);(try clear c20b0);(try clear c20b1);(try clear c22);(try clear c22b0);(try clear c22b1);(try clear c23);(try clear c23b0);(try clear c23b1);(try clear c25);(try clear q27);(try clear q30);(try clear c32);(try clear p2);(try clear p6);(try clear q2);(try clear q27);(try clear q3);(try clear q30)
           obtain ⟨x7_4, rfl, HA, HK4, HO_5, HB⟩ := hrel
           cases gk with
           | zero => exact absurd HA.out (by simp [laws_FnLogCut.l0])
           | succ k4 =>
            have H := HA.out; clear HA; simp only [laws_FnLogCut.l0] at H
            by_cases c33 : x7_4 < (t218.length : Int)
            ·rw [if_pos c33] at H
             have c33b0 : decide (x7_4 < (t218.length : Int)) = true := decide_eq_true c33; clear c33
             by_cases c34 : 0 ≤ x7_4
             ·rw [if_pos c34] at H
              have c34b0 : decide (0 ≤ x7_4) = true := decide_eq_true c34; clear c34
              by_cases c35 : ((rd_T41 t218 x7_4).f6) = 1
              ·rw [if_pos c35] at H
               have c35b0 : (((rd_T41 t218 x7_4).f6) == 1) = true := beq_iff_eq.mpr c35; have c35b1 : (((rd_T41 t218 x7_4).f6) != 1) = false := bne_eq_false_iff_eq.mpr c35; clear c35
               by_cases c36 : 1 ≤ (t218.length : Int)
               ·rw [if_pos c36] at H
                have c36b0 := eq_true c36; have c36b1 : decide (1 ≤ (t218.length : Int)) = true := decide_eq_true c36; clear c36
                obtain ⟨y231, hy231⟩ : ∃ y_ : List (S41), y_ = (t218.drop 1) := ⟨_, rfl⟩
                replace H : ((impl_LogOk.f k4 y231).bind fun t235 => (some (!t235))) = some r := by first | (rw [hy231]; with_reducible exact H) | (have H2_ := (Option.bind_some _ _).symm.trans H; rw [hy231]; with_reducible exact H2_) | (have H2_ := (Option.bind_some _ _).symm.trans H; with_reducible exact H2_) | with_reducible exact H | (rw [hy231]; exact H) | exact H
                have Ny231 := az hy231; clear hy231; replace H := Option.bind_eq_some_iff.mp H; obtain ⟨t235, A370, H⟩ := H; replace H : (some (!t235)) = some r := H; have A37 := az A370; clear A370; obtain rfl := Option.some.inj H; have p230 : 0 ≤ (x7_4 : Int) := of_decide_eq_true zb10; have q230 : x7_4 < (t218.length : Int) := of_decide_eq_true zb10; obtain ⟨ad230, e230, hx230_0, hx230_1, hx230_2, hx230_3, hx230_4, hx230_5, hx230_6, hx230_7⟩ := at_T41 (Kd.Q_reads' HO_5.out).2.2 x7_4 p230 q230
                cases e230
                replace p230 := eq_true p230; replace q230 := eq_true q230; have q38 : (1 : Int) ≤ ((t218.length : Int) : Int) := of_decide_eq_true zb10; obtain ⟨i038, hi038, _, hsz38, _⟩ := info_parts info41; have hroom38 : t218.length ≤ co10 := (Kd.Q_reads' HO_5.out).2.1; have hC38 : Kd.C k41 _ (some ad230) t218.length t218 := (Kd.Q_reads' HO_5.out).2.2; have hcut38 := cut_from (P := Try.prog) 34 41 .i64 Try.underlying34 hi038 8 hsz38 (some ad230) t218.length co10 1 (by omega) q38; have hr38 := Kd.C_drop (m := (1 : Int).toNat) (c := co10) hC38 (by omega) hroom38
                obtain ⟨A38, hA38⟩ : ∃ A1, A1 = (if co10 = (1 : Int).toNat then (some ad230) else ((some ad230) : Option Addr).map (·.add ((1 : Int).toNat * 8))) := ⟨_, rfl⟩
                obtain ⟨c38, hc38⟩ : ∃ c1, c1 = co10 - (1 : Int).toNat := ⟨_, rfl⟩
                have hy38 : y231.length = t218.length - (1 : Int).toNat := (by rw [Ny231.out, List.length_drop] <;> omega)
                rw [show (t218).drop (1 : Int).toNat = y231 from Ny231.out.symm] at hr38
                replace hr38 : Kd.C k41 _ A38 y231.length y231 := (by rw [hA38]; exact hr38)
                rw [← hy38, ← hA38, ← hc38] at hcut38; have HR234 := az hr38; have HC234 := az (show y231.length ≤ c38 from by rw [hy38, hc38]; exact Nat.sub_le_sub_right hroom38 _); clear hr38 hC38 hroom38 hi038 hsz38 hc38; have KY38 := az hy38; have KA38 := az hA38; clear hy38 hA38; have KL38 := az (show 1 ≤ t218.length from by omega); replace q38 := eq_true q38
                go_wp2_with (first | ((with_reducible refine gate_callee (f := 34) rfl ?_); refine goesL_ (some 60) rfl rfl Try.func34 zb14 rfl #[.slice A38 y231.length c38] rfl zb3 ?_; (with_reducible refine (impl_LogOk.calls k4 _ _ y231 t235 _ ?side1 ?side2 A37.out).mono ?_); (case side1 => repeat (first | exact zb85 | (with_reducible refine Kd.C_alloc ?_ _) | (with_reducible refine Kd.C_drewN ?_ _) | (with_reducible refine Kd.C_drew ?_))); (case side2 => exact HC234.out); rintro e w39 ⟨rfl, hb⟩; refine ⟨_, rfl, ?_⟩; replace HO_5 := az (Kd.Q_below zb36 hb); replace HR234 := az (Kd.C_below zb85 hb); replace HB := az (below_step zb7 hb); (try clear hb); (try clear hb2); (try clear hk); (try clear hi)))
                go_ret
                exact ⟨zb11, zb7⟩
               ·rw [if_neg c36] at H
                exact absurd H (by simp)
              ·rw [if_neg c35] at H
               have c35b0 : (((rd_T41 t218 x7_4).f6) == 1) = false := beq_eq_false_iff_ne.mpr c35; have c35b1 : (((rd_T41 t218 x7_4).f6) != 1) = true := bne_iff_ne.mpr c35; have H' := az H; clear H; have p230 : 0 ≤ (x7_4 : Int) := of_decide_eq_true zb10; have q230 : x7_4 < (t218.length : Int) := of_decide_eq_true zb10; obtain ⟨ad230, e230, hx230_0, hx230_1, hx230_2, hx230_3, hx230_4, hx230_5, hx230_6, hx230_7⟩ := at_T41 (Kd.Q_reads' HO_5.out).2.2 x7_4 p230 q230
               cases e230
               replace p230 := eq_true p230; replace q230 := eq_true q230
               go_wp2
               go_roundg k4
               case measure => have := HJ2.out; have := HJ7.out; have := HJ18.out; have := HK4.out; omega
               case rel => exact ⟨(wrap64 (x7_4 + 1)), zb15, H', ⟨by have := HJ2.out; have := HJ7.out; have := HJ18.out; have := HK4.out; omega⟩, ⟨zb36⟩, ⟨zb7⟩⟩
             ·rw [if_neg c34] at H
              exact absurd H (by simp)
            ·rw [if_neg c33] at H
             have c33b0 : decide (x7_4 < (t218.length : Int)) = false := decide_eq_false c33; clear c33; obtain rfl := Option.some.inj H
             go_wp2
             go_ret
             exact ⟨zb11, zb7⟩
end Go.Proofs.Ytcefiblpnegepaa.Pr
