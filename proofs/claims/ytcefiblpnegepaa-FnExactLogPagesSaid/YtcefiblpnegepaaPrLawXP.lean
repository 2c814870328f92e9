-- Laid by a program (extract.py) out of this seat's translation: contracts of a few functions, a text a function; Lean checks them.
import Derived.Test.YtcefiblpnegepaaPrK
import Derived.Test.YtcefiblpnegepaaPrMR
import Derived.Test.YtcefiblpnegepaaPgP
import Derived.Test.YtcefiblpnegepaaSq
namespace Go.Proofs.Ytcefiblpnegepaa.Pr
open Go.RowKit Go.Proofs.YtcefiblpnegepaaW.PrintWords Go.Proofs.YtcefiblpnegepaaW.PrintLast Go.Proofs.YtcefiblpnegepaaW.PrintMore
attribute [local go_sem] max2_int min2_int max_two min_two max_three min_three max_four min_four
set_option linter.unusedVariables false
set_option linter.unusedSimpArgs false
/-! ### laws_FnExactLogPages: function 20 -/
def laws_FnExactLogPages.j0 : Nat → List (S58) → Int → List Int → List Int → Bool → Option (Bool)
 | 0, _, _, _, _, _ => none
 | k + 1, x0, x1, x6, x8, x46 => if x46 = true then (some false) else ((laws_markIntS.f k x8 1).bind fun bt1465 => ((laws_heldIntS.f k bt1465.2 1).bind fun t1467 => (if t1467 < 0 then (some false) else (if t1467 = bt1465.1 then ((laws_toRecS.f k x0).bind fun t1468 => ((impl_LogPages.f k t1468 x1).bind fun t1471 => ((laws_eqIntS.f k t1471 x6).bind fun t1474 => (if t1474 = true then ((laws_heldIntS.f k bt1465.2 1).bind fun t1475 => (if t1475 < 0 then (some false) else (if t1475 = bt1465.1 then (some true) else (some false)))) else (some false))))) else (some false)))))
def laws_FnExactLogPages.f (k : Nat) (l0 : List (S58)) (a1 : Int) : Option (Bool) := (laws_szRecS.f l0 1048576).bind fun t1444 => (if t1444 < 0 then (some true) else ((laws_toRecS.f k l0).bind fun t1445 => ((spec_LogPages.f k t1445 a1).bind fun t1448 => ((laws_toRecS.f k l0).bind fun t1451 => ((impl_LogPages.f k t1451 a1).bind fun t1454 => ((laws_eqIntS.f k t1454 t1448).bind fun t1457 => (if t1457 = true then ((laws_toRecS.f k l0).bind fun t1458 => ((laws_eqRecS.f k t1451 t1458).bind fun t1461 => (if t1461 = true then ((laws_markRecS.f k t1451 1).bind fun bt1462 => (if bt1462.1 < 0 then (laws_FnExactLogPages.j0 k l0 a1 t1448 t1454 true) else ((laws_eqIntS.f k t1454 t1448).bind fun t1464 => (laws_FnExactLogPages.j0 k l0 a1 t1448 t1454 (!t1464))))) else (some false)))) else (some false))))))))
set_option maxHeartbeats 8000000 in
set_option maxRecDepth 100000 in
theorem laws_FnExactLogPages.calls (k : Nat) (A0 : Option Addr) (c0 : Nat) (l0 : List (S58)) (a1 : Int) (r : Bool) (w : World) (hr0 : Kd.C k58 w A0 l0.length l0) (hc0 : l0.length ≤ c0) (h : laws_FnExactLogPages.f k l0 a1 = some r) (hT_ : Aside0 (r = true)) :
  Calls Try.prog 20 #[.slice A0 l0.length c0, .int .i64 a1] w fun e w' => e = .returned (.bool r) ∧ Below w.heap.size w w' := by
 have HR0 := az hr0
 have HC0 := az hc0
 clear hr0 hc0
 have HB := az (Below.refl w.heap.size w)
 have H : ((laws_szRecS.f l0 1048576).bind fun t1444 => (if t1444 < 0 then (some true) else ((laws_toRecS.f k l0).bind fun t1445 => ((spec_LogPages.f k t1445 a1).bind fun t1448 => ((laws_toRecS.f k l0).bind fun t1451 => ((impl_LogPages.f k t1451 a1).bind fun t1454 => ((laws_eqIntS.f k t1454 t1448).bind fun t1457 => (if t1457 = true then ((laws_toRecS.f k l0).bind fun t1458 => ((laws_eqRecS.f k t1451 t1458).bind fun t1461 => (if t1461 = true then ((laws_markRecS.f k t1451 1).bind fun bt1462 => (if bt1462.1 < 0 then (laws_FnExactLogPages.j0 k l0 a1 t1448 t1454 true) else ((laws_eqIntS.f k t1454 t1448).bind fun t1464 => (laws_FnExactLogPages.j0 k l0 a1 t1448 t1454 (!t1464))))) else (some false)))) else (some false))))))))) = some r := h
 clear h
 replace H := Option.bind_eq_some_iff.mp H
 obtain ⟨t1444, A30, H⟩ := H
 replace H : (if t1444 < 0 then (some true) else ((laws_toRecS.f k l0).bind fun t1445 => ((spec_LogPages.f k t1445 a1).bind fun t1448 => ((laws_toRecS.f k l0).bind fun t1451 => ((impl_LogPages.f k t1451 a1).bind fun t1454 => ((laws_eqIntS.f k t1454 t1448).bind fun t1457 => (if t1457 = true then ((laws_toRecS.f k l0).bind fun t1458 => ((laws_eqRecS.f k t1451 t1458).bind fun t1461 => (if t1461 = true then ((laws_markRecS.f k t1451 1).bind fun bt1462 => (if bt1462.1 < 0 then (laws_FnExactLogPages.j0 k l0 a1 t1448 t1454 true) else ((laws_eqIntS.f k t1454 t1448).bind fun t1464 => (laws_FnExactLogPages.j0 k l0 a1 t1448 t1454 (!t1464))))) else (some false)))) else (some false)))))))) = some r := H
 have A3 := az A30
 clear A30
 by_cases c4 : t1444 < 0
 ·rw [if_pos c4] at H
  have c4b0 : decide (t1444 < 0) = true := decide_eq_true c4
  clear c4
  obtain rfl := Option.some.inj H
  go_enter Try.func20, Try.ntmps20
  go_wp2_with (first | ((with_reducible refine gate_callee (f := 31) rfl ?_); refine goesL_ (some 15) rfl rfl Try.func31 (by kernel_rfl) rfl #[.slice A0 l0.length c0, .int .i64 1048576] rfl (by (try simp only [List.map_toArray, List.map_cons, List.map_nil]); first | done | rfl | (simp only [List.length_drop, List.length_take]; rfl)) ?_; (with_reducible refine (laws_szRecS.calls _ _ l0 1048576 t1444 _ ?side1 ?side2 A3.out).mono ?_); (case side1 => repeat (first | exact HR0.out | (with_reducible refine Kd.C_alloc ?_ _) | (with_reducible refine Kd.C_drewN ?_ _) | (with_reducible refine Kd.C_drew ?_))); (case side2 => exact HC0.out); rintro e w' ⟨rfl, ⟨nd, rfl⟩⟩; refine ⟨_, rfl, ?_⟩))
  go_ret
  exact ⟨by first | rfl | (simp [errW_none, errW_some] <;> rfl) | (simp [*, errW_none, errW_some] <;> rfl), by repeat (first | (with_reducible first | exact HB.out | apply wa | apply wn | apply wd) | exact HB.out)⟩
 ·rw [if_neg c4] at H
  have c4b0 : decide (t1444 < 0) = false := decide_eq_false c4
  clear c4
  replace H := Option.bind_eq_some_iff.mp H
  obtain ⟨t1445, A50, H⟩ := H
  replace H : ((spec_LogPages.f k t1445 a1).bind fun t1448 => ((laws_toRecS.f k l0).bind fun t1451 => ((impl_LogPages.f k t1451 a1).bind fun t1454 => ((laws_eqIntS.f k t1454 t1448).bind fun t1457 => (if t1457 = true then ((laws_toRecS.f k l0).bind fun t1458 => ((laws_eqRecS.f k t1451 t1458).bind fun t1461 => (if t1461 = true then ((laws_markRecS.f k t1451 1).bind fun bt1462 => (if bt1462.1 < 0 then (laws_FnExactLogPages.j0 k l0 a1 t1448 t1454 true) else ((laws_eqIntS.f k t1454 t1448).bind fun t1464 => (laws_FnExactLogPages.j0 k l0 a1 t1448 t1454 (!t1464))))) else (some false)))) else (some false)))))) = some r := H
  have A5 := az A50
  clear A50
  replace H := Option.bind_eq_some_iff.mp H
  obtain ⟨t1448, A60, H⟩ := H
  replace H : ((laws_toRecS.f k l0).bind fun t1451 => ((impl_LogPages.f k t1451 a1).bind fun t1454 => ((laws_eqIntS.f k t1454 t1448).bind fun t1457 => (if t1457 = true then ((laws_toRecS.f k l0).bind fun t1458 => ((laws_eqRecS.f k t1451 t1458).bind fun t1461 => (if t1461 = true then ((laws_markRecS.f k t1451 1).bind fun bt1462 => (if bt1462.1 < 0 then (laws_FnExactLogPages.j0 k l0 a1 t1448 t1454 true) else ((laws_eqIntS.f k t1454 t1448).bind fun t1464 => (laws_FnExactLogPages.j0 k l0 a1 t1448 t1454 (!t1464))))) else (some false)))) else (some false))))) = some r := H
  have A6 := az A60
  clear A60
  replace H := Option.bind_eq_some_iff.mp H
  obtain ⟨t1451, A70, H⟩ := H
  replace H : ((impl_LogPages.f k t1451 a1).bind fun t1454 => ((laws_eqIntS.f k t1454 t1448).bind fun t1457 => (if t1457 = true then ((laws_toRecS.f k l0).bind fun t1458 => ((laws_eqRecS.f k t1451 t1458).bind fun t1461 => (if t1461 = true then ((laws_markRecS.f k t1451 1).bind fun bt1462 => (if bt1462.1 < 0 then (laws_FnExactLogPages.j0 k l0 a1 t1448 t1454 true) else ((laws_eqIntS.f k t1454 t1448).bind fun t1464 => (laws_FnExactLogPages.j0 k l0 a1 t1448 t1454 (!t1464))))) else (some false)))) else (some false)))) = some r := H
  have A7 := az A70
  clear A70
  replace H := Option.bind_eq_some_iff.mp H
  obtain ⟨t1454, A80, H⟩ := H
  replace H : ((laws_eqIntS.f k t1454 t1448).bind fun t1457 => (if t1457 = true then ((laws_toRecS.f k l0).bind fun t1458 => ((laws_eqRecS.f k t1451 t1458).bind fun t1461 => (if t1461 = true then ((laws_markRecS.f k t1451 1).bind fun bt1462 => (if bt1462.1 < 0 then (laws_FnExactLogPages.j0 k l0 a1 t1448 t1454 true) else ((laws_eqIntS.f k t1454 t1448).bind fun t1464 => (laws_FnExactLogPages.j0 k l0 a1 t1448 t1454 (!t1464))))) else (some false)))) else (some false))) = some r := H
  have A8 := az A80
  clear A80
  replace H := Option.bind_eq_some_iff.mp H
  obtain ⟨t1457, A90, H⟩ := H
  replace H : (if t1457 = true then ((laws_toRecS.f k l0).bind fun t1458 => ((laws_eqRecS.f k t1451 t1458).bind fun t1461 => (if t1461 = true then ((laws_markRecS.f k t1451 1).bind fun bt1462 => (if bt1462.1 < 0 then (laws_FnExactLogPages.j0 k l0 a1 t1448 t1454 true) else ((laws_eqIntS.f k t1454 t1448).bind fun t1464 => (laws_FnExactLogPages.j0 k l0 a1 t1448 t1454 (!t1464))))) else (some false)))) else (some false)) = some r := H
  have A9 := az A90
  clear A90
  by_cases c10 : t1457 = true
  ·subst c10
   have H1 : ((laws_toRecS.f k l0).bind fun t1458 => ((laws_eqRecS.f k t1451 t1458).bind fun t1461 => (if t1461 = true then ((laws_markRecS.f k t1451 1).bind fun bt1462 => (if bt1462.1 < 0 then (laws_FnExactLogPages.j0 k l0 a1 t1448 t1454 true) else ((laws_eqIntS.f k t1454 t1448).bind fun t1464 => (laws_FnExactLogPages.j0 k l0 a1 t1448 t1454 (!t1464))))) else (some false)))) = some r := by rw [if_pos rfl] at H; exact H
   clear H
   have H := H1
   clear H1
   replace H := Option.bind_eq_some_iff.mp H
   obtain ⟨t1458, A110, H⟩ := H
   replace H : ((laws_eqRecS.f k t1451 t1458).bind fun t1461 => (if t1461 = true then ((laws_markRecS.f k t1451 1).bind fun bt1462 => (if bt1462.1 < 0 then (laws_FnExactLogPages.j0 k l0 a1 t1448 t1454 true) else ((laws_eqIntS.f k t1454 t1448).bind fun t1464 => (laws_FnExactLogPages.j0 k l0 a1 t1448 t1454 (!t1464))))) else (some false))) = some r := H
   have A11 := az A110
   clear A110
   replace H := Option.bind_eq_some_iff.mp H
   obtain ⟨t1461, A120, H⟩ := H
   replace H : (if t1461 = true then ((laws_markRecS.f k t1451 1).bind fun bt1462 => (if bt1462.1 < 0 then (laws_FnExactLogPages.j0 k l0 a1 t1448 t1454 true) else ((laws_eqIntS.f k t1454 t1448).bind fun t1464 => (laws_FnExactLogPages.j0 k l0 a1 t1448 t1454 (!t1464))))) else (some false)) = some r := H
   have A12 := az A120
   clear A120
   by_cases c13 : t1461 = true
   ·subst c13
    have H1 : ((laws_markRecS.f k t1451 1).bind fun bt1462 => (if bt1462.1 < 0 then (laws_FnExactLogPages.j0 k l0 a1 t1448 t1454 true) else ((laws_eqIntS.f k t1454 t1448).bind fun t1464 => (laws_FnExactLogPages.j0 k l0 a1 t1448 t1454 (!t1464))))) = some r := by rw [if_pos rfl] at H; exact H
    clear H
    have H := H1
    clear H1
    replace H := Option.bind_eq_some_iff.mp H
    obtain ⟨⟨t1462, t1463⟩, A140, H⟩ := H
    replace H : (if t1462 < 0 then (laws_FnExactLogPages.j0 k l0 a1 t1448 t1454 true) else ((laws_eqIntS.f k t1454 t1448).bind fun t1464 => (laws_FnExactLogPages.j0 k l0 a1 t1448 t1454 (!t1464)))) = some r := H
    have A14 := az A140
    clear A140
    have HC15 := az H
    clear H
    go_enter Try.func20, Try.ntmps20
    go_upto_region 14 with (first | ((with_reducible refine gate_callee (f := 31) rfl ?_); refine goesL_ (some 15) rfl rfl Try.func31 (by kernel_rfl) rfl #[.slice A0 l0.length c0, .int .i64 1048576] rfl (by (try simp only [List.map_toArray, List.map_cons, List.map_nil]); first | done | rfl | (simp only [List.length_drop, List.length_take]; rfl)) ?_; (with_reducible refine (laws_szRecS.calls _ _ l0 1048576 t1444 _ ?side1 ?side2 A3.out).mono ?_); (case side1 => repeat (first | exact HR0.out | (with_reducible refine Kd.C_alloc ?_ _) | (with_reducible refine Kd.C_drewN ?_ _) | (with_reducible refine Kd.C_drew ?_))); (case side2 => exact HC0.out); rintro e w' ⟨rfl, ⟨nd, rfl⟩⟩; refine ⟨_, rfl, ?_⟩) | ((with_reducible refine gate_callee (f := 33) rfl ?_); refine goesL_ (some 19) rfl rfl Try.func33 (by kernel_rfl) rfl #[.slice A0 l0.length c0] rfl (by (try simp only [List.map_toArray, List.map_cons, List.map_nil]); first | done | rfl | (simp only [List.length_drop, List.length_take]; rfl)) ?_; (with_reducible refine (laws_toRecS.calls k _ _ l0 t1445 _ ?side1 ?side2 A5.out).mono ?_); (case side1 => repeat (first | exact HR0.out | (with_reducible refine Kd.C_alloc ?_ _) | (with_reducible refine Kd.C_drewN ?_ _) | (with_reducible refine Kd.C_drew ?_))); (case side2 => exact HC0.out); rintro e w16 ⟨v1446, rfl, ho0, hb⟩; refine ⟨_, rfl, ?_⟩; have HO1447 := az (Kd.R_lower ho0 (below_size (by repeat (first | (with_reducible first | exact HB.out | apply wa | apply wn | apply wd) | exact HB.out)))); replace HB := az (below_step (by repeat (first | (with_reducible first | exact HB.out | apply wa | apply wn | apply wd) | exact HB.out)) hb); (try clear hb); (try clear hb2); (try clear hk); (try clear hi); (try clear ho0); obtain ⟨Ao17, co17, eo17⟩ := Kd.R_slice HO1447.out; subst eo17) | ((with_reducible refine gate_callee (f := 72) rfl ?_); refine goesL_ (some 21) rfl rfl Try.func72 (by kernel_rfl) rfl #[.slice Ao17 t1445.length co17, .int .i64 a1] rfl (by (try simp only [List.map_toArray, List.map_cons, List.map_nil]); first | done | rfl | (simp only [List.length_drop, List.length_take]; rfl)) ?_; (with_reducible refine (spec_LogPages.calls k _ _ t1445 a1 t1448 _ ?side1 ?side2 A6.out).mono ?_); (case side1 => repeat (first | exact (Kd.R_reads' HO1447.out).2.2 | (with_reducible refine Kd.C_alloc ?_ _) | (with_reducible refine Kd.C_drewN ?_ _) | (with_reducible refine Kd.C_drew ?_))); (case side2 => exact (Kd.R_reads' HO1447.out).2.1); rintro e w18 ⟨v1449, rfl, ho0, hb⟩; refine ⟨_, rfl, ?_⟩; replace HO1447 := az (Kd.R_below (by (with_reducible repeat (first | apply Kd.R_alloc | apply Kd.R_drewN | apply Kd.R_drew)); exact HO1447.out) hb); have HO1450 := az (Kd.R_lower ho0 (below_size (by repeat (first | (with_reducible first | exact HB.out | apply wa | apply wn | apply wd) | exact HB.out)))); replace HB := az (below_step (by repeat (first | (with_reducible first | exact HB.out | apply wa | apply wn | apply wd) | exact HB.out)) hb); (try clear hb); (try clear hb2); (try clear hk); (try clear hi); (try clear ho0)) | ((with_reducible refine gate_callee (f := 33) rfl ?_); refine goesL_ (some 23) rfl rfl Try.func33 (by kernel_rfl) rfl #[.slice A0 l0.length c0] rfl (by (try simp only [List.map_toArray, List.map_cons, List.map_nil]); first | done | rfl | (simp only [List.length_drop, List.length_take]; rfl)) ?_; (with_reducible refine (laws_toRecS.calls k _ _ l0 t1451 _ ?side1 ?side2 A7.out).mono ?_); (case side1 => repeat (first | exact (Kd.C_below HR0.out HB.out) | (with_reducible refine Kd.C_alloc ?_ _) | (with_reducible refine Kd.C_drewN ?_ _) | (with_reducible refine Kd.C_drew ?_))); (case side2 => exact HC0.out); rintro e w19 ⟨v1452, rfl, ho0, hb⟩; refine ⟨_, rfl, ?_⟩; replace HO1450 := az (Kd.R_below (by (with_reducible repeat (first | apply Kd.R_alloc | apply Kd.R_drewN | apply Kd.R_drew)); exact HO1450.out) hb); have HO1453 := az (Kd.R_lower (Kd.R_new' ho0 (Kd.R_lt (by (with_reducible repeat (first | apply Kd.R_alloc | apply Kd.R_drewN | apply Kd.R_drew)); exact HO1447.out))) (below_size (by repeat (first | (with_reducible first | exact HB.out | apply wa | apply wn | apply wd) | exact HB.out)))); replace HO1447 := az (Kd.R_elder' (by (with_reducible repeat (first | apply Kd.R_alloc | apply Kd.R_drewN | apply Kd.R_drew)); exact HO1447.out) (Kd.R_base ho0) hb); replace HB := az (below_step (by repeat (first | (with_reducible first | exact HB.out | apply wa | apply wn | apply wd) | exact HB.out)) hb); (try clear hb); (try clear hb2); (try clear hk); (try clear hi); (try clear ho0); obtain ⟨Ao20, co20, eo20⟩ := Kd.R_slice HO1453.out; subst eo20) | ((with_reducible refine gate_callee (f := 73) rfl ?_); refine goesL_ (some 26) rfl rfl Try.func73 (by kernel_rfl) rfl #[.slice Ao20 t1451.length co20, .int .i64 a1] rfl (by (try simp only [List.map_toArray, List.map_cons, List.map_nil]); first | done | rfl | (simp only [List.length_drop, List.length_take]; rfl)) ?_; (with_reducible refine (impl_LogPages.calls k _ _ t1451 a1 t1454 _ ?side1 ?side2 A8.out).mono ?_); (case side1 => repeat (first | exact (Kd.R_reads' HO1453.out).2.2 | (with_reducible refine Kd.C_alloc ?_ _) | (with_reducible refine Kd.C_drewN ?_ _) | (with_reducible refine Kd.C_drew ?_))); (case side2 => exact (Kd.R_reads' HO1453.out).2.1); rintro e w21 ⟨v1455, rfl, ho0, hb⟩; refine ⟨_, rfl, ?_⟩; replace HO1447 := az (Kd.R_below (by (with_reducible repeat (first | apply Kd.R_alloc | apply Kd.R_drewN | apply Kd.R_drew)); exact HO1447.out) hb); replace HO1453 := az (Kd.R_below (by (with_reducible repeat (first | apply Kd.R_alloc | apply Kd.R_drewN | apply Kd.R_drew)); exact HO1453.out) hb); have HO1456 := az (Z_lower (Z_new' ho0 (Kd.R_lt (by (with_reducible repeat (first | apply Kd.R_alloc | apply Kd.R_drewN | apply Kd.R_drew)); exact HO1450.out))) (below_size (by repeat (first | (with_reducible first | exact HB.out | apply wa | apply wn | apply wd) | exact HB.out)))); replace HO1450 := az (Kd.R_elder' (by (with_reducible repeat (first | apply Kd.R_alloc | apply Kd.R_drewN | apply Kd.R_drew)); exact HO1450.out) (Z_base ho0) hb); replace HB := az (below_step (by repeat (first | (with_reducible first | exact HB.out | apply wa | apply wn | apply wd) | exact HB.out)) hb); (try clear hb); (try clear hb2); (try clear hk); (try clear hi); (try clear ho0); obtain ⟨Ao22, co22, eo22⟩ := Z_slice HO1456.out; subst eo22; obtain ⟨Ao23, co23, eo23⟩ := Kd.R_slice HO1450.out; subst eo23) | ((with_reducible refine gate_callee (f := 60) rfl ?_); refine goesL_ (some 29) rfl rfl Try.func60 (by kernel_rfl) rfl #[.slice Ao22 t1454.length co22, .slice Ao23 t1448.length co23] rfl (by (try simp only [List.map_toArray, List.map_cons, List.map_nil]); first | done | rfl | (simp only [List.length_drop, List.length_take]; rfl)) ?_; (with_reducible refine (laws_eqIntS.calls k _ _ t1454 _ _ t1448 true _ ?side1 ?side2 ?side3 ?side4 A9.out).mono ?_); (case side1 => repeat (first | exact (Z_reads' HO1456.out).2.2 | (with_reducible refine Kd.C_alloc ?_ _) | (with_reducible refine Kd.C_drewN ?_ _) | (with_reducible refine Kd.C_drew ?_))); (case side2 => exact (Z_reads' HO1456.out).2.1); (case side3 => repeat (first | exact (Kd.R_reads' HO1450.out).2.2 | (with_reducible refine Kd.C_alloc ?_ _) | (with_reducible refine Kd.C_drewN ?_ _) | (with_reducible refine Kd.C_drew ?_))); (case side4 => exact (Kd.R_reads' HO1450.out).2.1); rintro e w' ⟨rfl, ⟨nd, rfl⟩⟩; refine ⟨_, rfl, ?_⟩) | ((with_reducible refine gate_callee (f := 33) rfl ?_); refine goesL_ (some 33) rfl rfl Try.func33 (by kernel_rfl) rfl #[.slice A0 l0.length c0] rfl (by (try simp only [List.map_toArray, List.map_cons, List.map_nil]); first | done | rfl | (simp only [List.length_drop, List.length_take]; rfl)) ?_; (with_reducible refine (laws_toRecS.calls k _ _ l0 t1458 _ ?side1 ?side2 A11.out).mono ?_); (case side1 => repeat (first | exact (Kd.C_below HR0.out (by repeat (first | (with_reducible first | exact HB.out | apply wa | apply wn | apply wd) | exact HB.out))) | (with_reducible refine Kd.C_alloc ?_ _) | (with_reducible refine Kd.C_drewN ?_ _) | (with_reducible refine Kd.C_drew ?_))); (case side2 => exact HC0.out); rintro e w24 ⟨v1459, rfl, ho0, hb⟩; refine ⟨_, rfl, ?_⟩; replace HO1450 := az (Kd.R_below (by (with_reducible repeat (first | apply Kd.R_alloc | apply Kd.R_drewN | apply Kd.R_drew)); exact HO1450.out) hb); replace HO1456 := az (Z_below (by (with_reducible repeat (first | apply Z_alloc | apply Z_drewN | apply Z_drew)); exact HO1456.out) hb); have HO1460 := az (Kd.R_lower (Kd.R_new' (Kd.R_new' ho0 (Kd.R_lt (by (with_reducible repeat (first | apply Kd.R_alloc | apply Kd.R_drewN | apply Kd.R_drew)); exact HO1447.out))) (Kd.R_lt (by (with_reducible repeat (first | apply Kd.R_alloc | apply Kd.R_drewN | apply Kd.R_drew)); exact HO1453.out))) (below_size (by repeat (first | (with_reducible first | exact HB.out | apply wa | apply wn | apply wd) | exact HB.out)))); replace HO1447 := az (Kd.R_elder' (by (with_reducible repeat (first | apply Kd.R_alloc | apply Kd.R_drewN | apply Kd.R_drew)); exact HO1447.out) (Kd.R_base ho0) hb); replace HO1453 := az (Kd.R_elder' (by (with_reducible repeat (first | apply Kd.R_alloc | apply Kd.R_drewN | apply Kd.R_drew)); exact HO1453.out) (Kd.R_base ho0) hb); replace HB := az (below_step (by repeat (first | (with_reducible first | exact HB.out | apply wa | apply wn | apply wd) | exact HB.out)) hb); (try clear hb); (try clear hb2); (try clear hk); (try clear hi); (try clear ho0); obtain ⟨Ao25, co25, eo25⟩ := Kd.R_slice HO1460.out; subst eo25) | ((with_reducible refine gate_callee (f := 35) rfl ?_); refine goesL_ (some 34) rfl rfl Try.func35 (by kernel_rfl) rfl #[.slice Ao20 t1451.length co20, .slice Ao25 t1458.length co25] rfl (by (try simp only [List.map_toArray, List.map_cons, List.map_nil]); first | done | rfl | (simp only [List.length_drop, List.length_take]; rfl)) ?_; (with_reducible refine (laws_eqRecS.calls k _ _ t1451 _ _ t1458 true _ ?side1 ?side2 ?side3 ?side4 A12.out).mono ?_); (case side1 => repeat (first | exact (Kd.R_reads' HO1453.out).2.2 | (with_reducible refine Kd.C_alloc ?_ _) | (with_reducible refine Kd.C_drewN ?_ _) | (with_reducible refine Kd.C_drew ?_))); (case side2 => exact (Kd.R_reads' HO1453.out).2.1); (case side3 => repeat (first | exact (Kd.R_reads' HO1460.out).2.2 | (with_reducible refine Kd.C_alloc ?_ _) | (with_reducible refine Kd.C_drewN ?_ _) | (with_reducible refine Kd.C_drew ?_))); (case side4 => exact (Kd.R_reads' HO1460.out).2.1); rintro e w26 ⟨rfl, hb⟩; refine ⟨_, rfl, ?_⟩; replace HO1447 := az (Kd.R_below (by (with_reducible repeat (first | apply Kd.R_alloc | apply Kd.R_drewN | apply Kd.R_drew)); exact HO1447.out) hb); replace HO1450 := az (Kd.R_below (by (with_reducible repeat (first | apply Kd.R_alloc | apply Kd.R_drewN | apply Kd.R_drew)); exact HO1450.out) hb); replace HO1453 := az (Kd.R_below (by (with_reducible repeat (first | apply Kd.R_alloc | apply Kd.R_drewN | apply Kd.R_drew)); exact HO1453.out) hb); replace HO1456 := az (Z_below (by (with_reducible repeat (first | apply Z_alloc | apply Z_drewN | apply Z_drew)); exact HO1456.out) hb); replace HO1460 := az (Kd.R_below (by (with_reducible repeat (first | apply Kd.R_alloc | apply Kd.R_drewN | apply Kd.R_drew)); exact HO1460.out) hb); replace HB := az (below_step (by repeat (first | (with_reducible first | exact HB.out | apply wa | apply wn | apply wd) | exact HB.out)) hb); (try clear hb); (try clear hb2); (try clear hk); (try clear hi)) | ((with_reducible refine gate_callee (f := 61) rfl ?_); refine goesL_ (some 38) rfl rfl Try.func61 (by kernel_rfl) rfl #[.slice Ao20 t1451.length co20, .int .i64 1] rfl (by (try simp only [List.map_toArray, List.map_cons, List.map_nil]); first | done | rfl | (simp only [List.length_drop, List.length_take]; rfl)) ?_; (with_reducible refine (laws_markRecS.calls k (fun k_ => some k_ = (.slice Ao20 t1451.length co20 : Value).ownBlock) (.slice Ao20 t1451.length co20) t1451 1 t1462 t1463 w _ ?side1 ?side2 A14.out).mono ?_); (case side1 => repeat (first | (with_reducible first | exact HB.out | apply wa | apply wn | apply wd) | exact HB.out)); (case side2 => exact Kd.R_tight rfl HO1453.out); rintro e w27 ⟨rfl, hy0, hb, hkp⟩; refine ⟨_, rfl, ?_⟩; replace HO1447 := az (Kd.R_mono (ok' := fun k_ => some k_ ≠ (.slice Ao20 t1451.length co20 : Value).ownBlock ∧ some k_ ≠ (.slice Ao25 t1458.length co25 : Value).ownBlock) (Kd.R_keptB (HO1447.out) hkp (fun k_ hk_ hs_ => (hk_.1.2) hs_)) (fun k_ hk_ => ⟨hk_.1.1.2, hk_.1.2⟩)); replace HO1450 := az (Kd.R_mono (ok' := fun k_ => some k_ ≠ (.slice Ao22 t1454.length co22 : Value).ownBlock) (Kd.R_keptB ((Kd.R_apart' HO1450.out (Kd.R_typed HO1453.out) (by decide))) hkp (fun k_ hk_ hs_ => (hk_.2) hs_)) (fun k_ hk_ => hk_.1.1.2)); replace HO1456 := az (Z_mono (ok' := fun k_ => some k_ ≠ (.slice Ao23 t1448.length co23 : Value).ownBlock) (Z_keptB ((Z_apart' HO1456.out (Kd.R_typed HO1453.out) (by decide))) hkp (fun k_ hk_ hs_ => (hk_.2) hs_)) (fun k_ hk_ => hk_.1.1.2)); replace HO1453 := az (Kd.R_reok rfl hy0 (fun k_ e_ => HO1453.out.1 k_ e_)); replace HO1460 := az (Kd.R_mono (ok' := fun k_ => some k_ ≠ (.slice Ao17 t1445.length co17 : Value).ownBlock ∧ some k_ ≠ (.slice Ao20 t1451.length co20 : Value).ownBlock) (Kd.R_keptB (HO1460.out) hkp (fun k_ hk_ hs_ => (hk_.2) hs_)) (fun k_ hk_ => ⟨hk_.1.1.2, hk_.1.2⟩)); replace HB := az (hb); (try clear hb); (try clear hkp); (try clear hy0)))
    (try simp only [Act.put, List.setIfInBounds_toArray, List.set_cons_zero, List.set_cons_succ])
    go_cut [46] (fun v46 wc => ∃ (kq : Nat) (x46_14 : Bool), v46 = .bool x46_14 ∧ Aside0 (laws_FnExactLogPages.j0 kq l0 a1 t1448 t1454 x46_14 = some r) ∧ Aside0 (kq ≤ k) ∧ Aside0 (Kd.R (Kd.int .i64) 3 wc w.heap.size (fun k_ => some k_ ≠ ((.slice Ao22 t1454.length co22) : Value).ownBlock) (.slice Ao23 t1448.length co23) t1448) ∧ Aside0 (Z (Kd.int .i64) 3 wc w.heap.size (fun k_ => some k_ ≠ ((.slice Ao23 t1448.length co23) : Value).ownBlock) (.slice Ao22 t1454.length co22) t1454) ∧ Aside0 (Below w.heap.size w wc))
    case first =>
     have H := HC15.out
     clear HC15
     by_cases c28 : t1462 < 0
     ·rw [if_pos c28] at H
      have c28b0 : decide (t1462 < 0) = true := decide_eq_true c28
      clear c28
      (first | rw [c28b0] | (simp only [i64_w, i32_w]; rw [c28b0]) | skip)
      have H' := az H
      clear H
      go_wp2
      go_meet
      case rel => exact ⟨_, (true), (by first | rfl | (simp; done) | (simp [*]; done)), H', ⟨by first | omega | exact Nat.le_refl _⟩, ⟨by (with_reducible repeat (first | apply Kd.R_alloc | apply Kd.R_drewN | apply Kd.R_drew)); exact HO1450.out⟩, ⟨by (with_reducible repeat (first | apply Z_alloc | apply Z_drewN | apply Z_drew)); exact HO1456.out⟩, ⟨by repeat (first | (with_reducible first | exact HB.out | apply wa | apply wn | apply wd) | exact HB.out)⟩⟩
     ·rw [if_neg c28] at H
      have c28b0 : decide (t1462 < 0) = false := decide_eq_false c28
      clear c28
      (first | rw [c28b0] | (simp only [i64_w, i32_w]; rw [c28b0]) | skip)
      replace H := Option.bind_eq_some_iff.mp H
      obtain ⟨t1464, A290, H⟩ := H
      replace H : (laws_FnExactLogPages.j0 k l0 a1 t1448 t1454 (!t1464)) = some r := H
      have A29 := az A290
      clear A290
      have H' := az H
      clear H
      go_wp2_with (first | (go_at_call 60; (with_reducible refine (laws_eqIntS.calls k _ _ t1454 _ _ t1448 t1464 _ ?side1 ?side2 ?side3 ?side4 A29.out).mono ?_); (case side1 => repeat (first | exact (Z_reads' HO1456.out).2.2 | (with_reducible refine Kd.C_alloc ?_ _) | (with_reducible refine Kd.C_drewN ?_ _) | (with_reducible refine Kd.C_drew ?_))); (case side2 => exact (Z_reads' HO1456.out).2.1); (case side3 => repeat (first | exact (Kd.R_reads' HO1450.out).2.2 | (with_reducible refine Kd.C_alloc ?_ _) | (with_reducible refine Kd.C_drewN ?_ _) | (with_reducible refine Kd.C_drew ?_))); (case side4 => exact (Kd.R_reads' HO1450.out).2.1); rintro e w' ⟨rfl, ⟨nd, rfl⟩⟩))
      go_meet
      case rel => exact ⟨_, (!t1464), (by first | rfl | (simp; done) | (simp [*]; done)), H', ⟨by first | omega | exact Nat.le_refl _⟩, ⟨by (with_reducible repeat (first | apply Kd.R_alloc | apply Kd.R_drewN | apply Kd.R_drew)); exact HO1450.out⟩, ⟨by (with_reducible repeat (first | apply Z_alloc | apply Z_drewN | apply Z_drew)); exact HO1456.out⟩, ⟨by repeat (first | (with_reducible first | exact HB.out | apply wa | apply wn | apply wd) | exact HB.out)⟩⟩
    case rest =>
     clear HC15;(try clear c1);(try clear c2);(try clear p2);(try clear c3);(try clear c4);(try clear c4b0);(try clear c6);(try clear c7);(try clear c10);(try clear c13);(try clear c20);(try clear c28);(try clear c28b0)
     obtain ⟨kq, x46_14, rfl, HA, HJ14, HO_6, HO_8, HB⟩ := hcut
     cases kq with
     | zero => exact absurd HA.out (by simp [laws_FnExactLogPages.j0])
     | succ kj14 =>
      have H := HA.out
      clear HA
      simp only [laws_FnExactLogPages.j0] at H
      by_cases c30 : x46_14 = true
      ·subst c30
       have H1 : (some false) = some r := by rw [if_pos rfl] at H; exact H
       clear H
       have H := H1
       clear H1
       obtain rfl := Option.some.inj H
       exact absurd hT_.out (by simp)
      ·replace c30 := Bool.eq_false_iff.mpr c30
       subst c30
       have H1 : ((laws_markIntS.f kj14 t1454 1).bind fun bt1465 => ((laws_heldIntS.f kj14 bt1465.2 1).bind fun t1467 => (if t1467 < 0 then (some false) else (if t1467 = bt1465.1 then ((laws_toRecS.f kj14 l0).bind fun t1468 => ((impl_LogPages.f kj14 t1468 a1).bind fun t1471 => ((laws_eqIntS.f kj14 t1471 t1448).bind fun t1474 => (if t1474 = true then ((laws_heldIntS.f kj14 bt1465.2 1).bind fun t1475 => (if t1475 < 0 then (some false) else (if t1475 = bt1465.1 then (some true) else (some false)))) else (some false))))) else (some false))))) = some r := by rw [if_neg (show ¬ (false = true) by decide)] at H; exact H
       clear H
       have H := H1
       clear H1
       replace H := Option.bind_eq_some_iff.mp H
       obtain ⟨⟨t1465, t1466⟩, A310, H⟩ := H
       replace H : ((laws_heldIntS.f kj14 t1466 1).bind fun t1467 => (if t1467 < 0 then (some false) else (if t1467 = t1465 then ((laws_toRecS.f kj14 l0).bind fun t1468 => ((impl_LogPages.f kj14 t1468 a1).bind fun t1471 => ((laws_eqIntS.f kj14 t1471 t1448).bind fun t1474 => (if t1474 = true then ((laws_heldIntS.f kj14 t1466 1).bind fun t1475 => (if t1475 < 0 then (some false) else (if t1475 = t1465 then (some true) else (some false)))) else (some false))))) else (some false)))) = some r := H
       have A31 := az A310
       clear A310
       replace H := Option.bind_eq_some_iff.mp H
       obtain ⟨t1467, A320, H⟩ := H
       replace H : (if t1467 < 0 then (some false) else (if t1467 = t1465 then ((laws_toRecS.f kj14 l0).bind fun t1468 => ((impl_LogPages.f kj14 t1468 a1).bind fun t1471 => ((laws_eqIntS.f kj14 t1471 t1448).bind fun t1474 => (if t1474 = true then ((laws_heldIntS.f kj14 t1466 1).bind fun t1475 => (if t1475 < 0 then (some false) else (if t1475 = t1465 then (some true) else (some false)))) else (some false))))) else (some false))) = some r := H
       have A32 := az A320
       clear A320
       by_cases c33 : t1467 < 0
       ·rw [if_pos c33] at H
        have c33b0 : decide (t1467 < 0) = true := decide_eq_true c33
        clear c33
        obtain rfl := Option.some.inj H
        exact absurd hT_.out (by simp)
       ·rw [if_neg c33] at H
        have c33b0 : decide (t1467 < 0) = false := decide_eq_false c33
        clear c33
        by_cases c35 : t1467 = t1465
        ·rw [if_pos c35] at H
         have c35b0 : (t1467 == t1465) = true := beq_iff_eq.mpr c35
         have c35b1 : (t1467 != t1465) = false := bne_eq_false_iff_eq.mpr c35
         clear c35
         replace H := Option.bind_eq_some_iff.mp H
         obtain ⟨t1468, A360, H⟩ := H
         replace H : ((impl_LogPages.f kj14 t1468 a1).bind fun t1471 => ((laws_eqIntS.f kj14 t1471 t1448).bind fun t1474 => (if t1474 = true then ((laws_heldIntS.f kj14 t1466 1).bind fun t1475 => (if t1475 < 0 then (some false) else (if t1475 = t1465 then (some true) else (some false)))) else (some false)))) = some r := H
         have A36 := az A360
         clear A360
         replace H := Option.bind_eq_some_iff.mp H
         obtain ⟨t1471, A370, H⟩ := H
         replace H : ((laws_eqIntS.f kj14 t1471 t1448).bind fun t1474 => (if t1474 = true then ((laws_heldIntS.f kj14 t1466 1).bind fun t1475 => (if t1475 < 0 then (some false) else (if t1475 = t1465 then (some true) else (some false)))) else (some false))) = some r := H
         have A37 := az A370
         clear A370
         replace H := Option.bind_eq_some_iff.mp H
         obtain ⟨t1474, A380, H⟩ := H
         replace H : (if t1474 = true then ((laws_heldIntS.f kj14 t1466 1).bind fun t1475 => (if t1475 < 0 then (some false) else (if t1475 = t1465 then (some true) else (some false)))) else (some false)) = some r := H
         have A38 := az A380
         clear A380
         by_cases c39 : t1474 = true
         ·subst c39
          have H1 : ((laws_heldIntS.f kj14 t1466 1).bind fun t1475 => (if t1475 < 0 then (some false) else (if t1475 = t1465 then (some true) else (some false)))) = some r := by rw [if_pos rfl] at H; exact H
          clear H
          have H := H1
          clear H1
          replace H := Option.bind_eq_some_iff.mp H
          obtain ⟨t1475, A400, H⟩ := H
          replace H : (if t1475 < 0 then (some false) else (if t1475 = t1465 then (some true) else (some false))) = some r := H
          have A40 := az A400
          clear A400
          by_cases c41 : t1475 < 0
          ·rw [if_pos c41] at H
           have c41b0 : decide (t1475 < 0) = true := decide_eq_true c41
           clear c41
           obtain rfl := Option.some.inj H
           exact absurd hT_.out (by simp)
          ·rw [if_neg c41] at H
           have c41b0 : decide (t1475 < 0) = false := decide_eq_false c41
           clear c41
           by_cases c47 : t1475 = t1465
           ·rw [if_pos c47] at H
            have c47b0 : (t1475 == t1465) = true := beq_iff_eq.mpr c47
            have c47b1 : (t1475 != t1465) = false := bne_eq_false_iff_eq.mpr c47
            clear c47
            obtain rfl := Option.some.inj H
            go_wp2_with (first | ((with_reducible refine gate_callee (f := 62) rfl ?_); refine goesL_ (some 49) rfl rfl Try.func62 (by kernel_rfl) rfl #[.slice Ao22 t1454.length co22, .int .i64 1] rfl (by (try simp only [List.map_toArray, List.map_cons, List.map_nil]); first | done | rfl | (simp only [List.length_drop, List.length_take]; rfl)) ?_; (with_reducible refine (markIntS_Z kj14 (fun k_ => some k_ = (.slice Ao22 t1454.length co22 : Value).ownBlock) (.slice Ao22 t1454.length co22) t1454 1 t1465 t1466 w _ ?side1 ?side2 A31.out).mono ?_); (case side1 => repeat (first | (with_reducible first | exact HB.out | apply wa | apply wn | apply wd) | exact HB.out)); (case side2 => exact Z_tight rfl HO_8.out); rintro e w48 ⟨rfl, hy0, hb, hkp⟩; refine ⟨_, rfl, ?_⟩; replace HO_6 := az (Kd.R_mono (ok' := fun k_ => some k_ ≠ (.slice Ao22 t1454.length co22 : Value).ownBlock) (Kd.R_keptB (HO_6.out) hkp (fun k_ hk_ hs_ => (hk_) hs_)) (fun k_ hk_ => hk_.1)); replace HO_8 := az (Z_reok rfl hy0 (fun k_ e_ => HO_8.out.1 k_ e_)); replace HB := az (hb); (try clear hb); (try clear hkp); (try clear hy0)) | ((with_reducible refine gate_callee (f := 63) rfl ?_); refine goesL_ (some 52) rfl rfl Try.func63 (by kernel_rfl) rfl #[.slice Ao22 t1466.length co22, .int .i64 1] rfl (by (try simp only [List.map_toArray, List.map_cons, List.map_nil]); first | done | (rw [show t1466.length = t1454.length from (Z_reads' HO_8.out).1.symm] <;> rfl) | rfl | (simp only [List.length_drop, List.length_take]; rfl)) ?_; (with_reducible refine (laws_heldIntS.calls kj14 _ _ t1466 1 t1467 _ ?side1 ?side2 A32.out).mono ?_); (case side1 => repeat (first | exact (Z_reads' HO_8.out).2.2 | (with_reducible refine Kd.C_alloc ?_ _) | (with_reducible refine Kd.C_drewN ?_ _) | (with_reducible refine Kd.C_drew ?_))); (case side2 => rw [show t1466.length = t1454.length from (Z_reads' HO_8.out).1.symm]; exact (Z_reads' HO_8.out).2.1); rintro e w' ⟨rfl, ⟨nd, rfl⟩⟩; refine ⟨_, rfl, ?_⟩) | ((with_reducible refine gate_callee (f := 33) rfl ?_); refine goesL_ (some 59) rfl rfl Try.func33 (by kernel_rfl) rfl #[.slice A0 l0.length c0] rfl (by (try simp only [List.map_toArray, List.map_cons, List.map_nil]); first | done | rfl | (simp only [List.length_drop, List.length_take]; rfl)) ?_; (with_reducible refine (laws_toRecS.calls kj14 _ _ l0 t1468 _ ?side1 ?side2 A36.out).mono ?_); (case side1 => repeat (first | exact (Kd.C_below HR0.out (by repeat (first | (with_reducible first | exact HB.out | apply wa | apply wn | apply wd) | exact HB.out))) | (with_reducible refine Kd.C_alloc ?_ _) | (with_reducible refine Kd.C_drewN ?_ _) | (with_reducible refine Kd.C_drew ?_))); (case side2 => exact HC0.out); rintro e w49 ⟨v1469, rfl, ho0, hb⟩; refine ⟨_, rfl, ?_⟩; replace HO_6 := az (Kd.R_below (by (with_reducible repeat (first | apply Kd.R_alloc | apply Kd.R_drewN | apply Kd.R_drew)); exact HO_6.out) hb); replace HO_8 := az (Z_below (by (with_reducible repeat (first | apply Z_alloc | apply Z_drewN | apply Z_drew)); exact HO_8.out) hb); have HO1470 := az (Kd.R_lower ho0 (below_size (by repeat (first | (with_reducible first | exact HB.out | apply wa | apply wn | apply wd) | exact HB.out)))); replace HB := az (below_step (by repeat (first | (with_reducible first | exact HB.out | apply wa | apply wn | apply wd) | exact HB.out)) hb); (try clear hb); (try clear hb2); (try clear hk); (try clear hi); (try clear ho0); obtain ⟨Ao50, co50, eo50⟩ := Kd.R_slice HO1470.out; subst eo50) | ((with_reducible refine gate_callee (f := 73) rfl ?_); refine goesL_ (some 61) rfl rfl Try.func73 (by kernel_rfl) rfl #[.slice Ao50 t1468.length co50, .int .i64 a1] rfl (by (try simp only [List.map_toArray, List.map_cons, List.map_nil]); first | done | rfl | (simp only [List.length_drop, List.length_take]; rfl)) ?_; (with_reducible refine (impl_LogPages.calls kj14 _ _ t1468 a1 t1471 _ ?side1 ?side2 A37.out).mono ?_); (case side1 => repeat (first | exact (Kd.R_reads' HO1470.out).2.2 | (with_reducible refine Kd.C_alloc ?_ _) | (with_reducible refine Kd.C_drewN ?_ _) | (with_reducible refine Kd.C_drew ?_))); (case side2 => exact (Kd.R_reads' HO1470.out).2.1); rintro e w51 ⟨v1472, rfl, ho0, hb⟩; refine ⟨_, rfl, ?_⟩; replace HO1470 := az (Kd.R_below (by (with_reducible repeat (first | apply Kd.R_alloc | apply Kd.R_drewN | apply Kd.R_drew)); exact HO1470.out) hb); have HO1473 := az (Z_lower (Z_new' (Z_new' ho0 (Kd.R_lt (by (with_reducible repeat (first | apply Kd.R_alloc | apply Kd.R_drewN | apply Kd.R_drew)); exact HO_6.out))) (Z_lt (by (with_reducible repeat (first | apply Z_alloc | apply Z_drewN | apply Z_drew)); exact HO_8.out))) (below_size (by repeat (first | (with_reducible first | exact HB.out | apply wa | apply wn | apply wd) | exact HB.out)))); replace HO_6 := az (Kd.R_elder' (by (with_reducible repeat (first | apply Kd.R_alloc | apply Kd.R_drewN | apply Kd.R_drew)); exact HO_6.out) (Z_base ho0) hb); replace HO_8 := az (Z_elder' (by (with_reducible repeat (first | apply Z_alloc | apply Z_drewN | apply Z_drew)); exact HO_8.out) (Z_base ho0) hb); replace HB := az (below_step (by repeat (first | (with_reducible first | exact HB.out | apply wa | apply wn | apply wd) | exact HB.out)) hb); (try clear hb); (try clear hb2); (try clear hk); (try clear hi); (try clear ho0); obtain ⟨Ao52, co52, eo52⟩ := Z_slice HO1473.out; subst eo52) | ((with_reducible refine gate_callee (f := 60) rfl ?_); refine goesL_ (some 64) rfl rfl Try.func60 (by kernel_rfl) rfl #[.slice Ao52 t1471.length co52, .slice Ao23 t1448.length co23] rfl (by (try simp only [List.map_toArray, List.map_cons, List.map_nil]); first | done | rfl | (simp only [List.length_drop, List.length_take]; rfl)) ?_; (with_reducible refine (laws_eqIntS.calls kj14 _ _ t1471 _ _ t1448 true _ ?side1 ?side2 ?side3 ?side4 A38.out).mono ?_); (case side1 => repeat (first | exact (Z_reads' HO1473.out).2.2 | (with_reducible refine Kd.C_alloc ?_ _) | (with_reducible refine Kd.C_drewN ?_ _) | (with_reducible refine Kd.C_drew ?_))); (case side2 => exact (Z_reads' HO1473.out).2.1); (case side3 => repeat (first | exact (Kd.R_reads' HO_6.out).2.2 | (with_reducible refine Kd.C_alloc ?_ _) | (with_reducible refine Kd.C_drewN ?_ _) | (with_reducible refine Kd.C_drew ?_))); (case side4 => exact (Kd.R_reads' HO_6.out).2.1); rintro e w' ⟨rfl, ⟨nd, rfl⟩⟩; refine ⟨_, rfl, ?_⟩) | ((with_reducible refine gate_callee (f := 63) rfl ?_); refine goesL_ (some 68) rfl rfl Try.func63 (by kernel_rfl) rfl #[.slice Ao22 t1466.length co22, .int .i64 1] rfl (by (try simp only [List.map_toArray, List.map_cons, List.map_nil]); first | done | (rw [show t1466.length = t1454.length from (Z_reads' HO_8.out).1.symm] <;> rfl) | rfl | (simp only [List.length_drop, List.length_take]; rfl)) ?_; (with_reducible refine (laws_heldIntS.calls kj14 _ _ t1466 1 t1475 _ ?side1 ?side2 A40.out).mono ?_); (case side1 => repeat (first | exact (Z_reads' HO_8.out).2.2 | (with_reducible refine Kd.C_alloc ?_ _) | (with_reducible refine Kd.C_drewN ?_ _) | (with_reducible refine Kd.C_drew ?_))); (case side2 => rw [show t1466.length = t1454.length from (Z_reads' HO_8.out).1.symm]; exact (Z_reads' HO_8.out).2.1); rintro e w' ⟨rfl, ⟨nd, rfl⟩⟩; refine ⟨_, rfl, ?_⟩))
            go_ret
            exact ⟨by first | rfl | (simp [errW_none, errW_some] <;> rfl) | (simp [*, errW_none, errW_some] <;> rfl), by repeat (first | (with_reducible first | exact HB.out | apply wa | apply wn | apply wd) | exact HB.out)⟩
           ·rw [if_neg c47] at H
            have c47b0 : (t1475 == t1465) = false := beq_eq_false_iff_ne.mpr c47
            have c47b1 : (t1475 != t1465) = true := bne_iff_ne.mpr c47
            obtain rfl := Option.some.inj H
            exact absurd hT_.out (by simp)
         ·replace c39 := Bool.eq_false_iff.mpr c39
          subst c39
          have H1 : (some false) = some r := by rw [if_neg (show ¬ (false = true) by decide)] at H; exact H
          clear H
          have H := H1
          clear H1
          obtain rfl := Option.some.inj H
          exact absurd hT_.out (by simp)
        ·rw [if_neg c35] at H
         have c35b0 : (t1467 == t1465) = false := beq_eq_false_iff_ne.mpr c35
         have c35b1 : (t1467 != t1465) = true := bne_iff_ne.mpr c35
         obtain rfl := Option.some.inj H
         exact absurd hT_.out (by simp)
   ·replace c13 := Bool.eq_false_iff.mpr c13
    subst c13
    have H1 : (some false) = some r := by rw [if_neg (show ¬ (false = true) by decide)] at H; exact H
    clear H
    have H := H1
    clear H1
    obtain rfl := Option.some.inj H
    exact absurd hT_.out (by simp)
  ·replace c10 := Bool.eq_false_iff.mpr c10
   subst c10
   have H1 : (some false) = some r := by rw [if_neg (show ¬ (false = true) by decide)] at H; exact H
   clear H
   have H := H1
   clear H1
   obtain rfl := Option.some.inj H
   exact absurd hT_.out (by simp)
end Go.Proofs.Ytcefiblpnegepaa.Pr
