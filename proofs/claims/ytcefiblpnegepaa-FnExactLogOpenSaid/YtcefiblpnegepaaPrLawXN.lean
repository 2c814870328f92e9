-- Laid by a program (extract.py) out of this seat's translation: contracts of a few functions, a text a function; Lean checks them.
import Derived.Test.YtcefiblpnegepaaPrK
import Derived.Test.YtcefiblpnegepaaPrLO2
import Derived.Test.YtcefiblpnegepaaPrMR
namespace Go.Proofs.Ytcefiblpnegepaa.Pr
open Go.RowKit Go.Proofs.YtcefiblpnegepaaW.PrintWords Go.Proofs.YtcefiblpnegepaaW.PrintLast Go.Proofs.YtcefiblpnegepaaW.PrintMore
attribute [local go_sem] max2_int min2_int max_two min_two max_three min_three max_four min_four
set_option linter.unusedVariables false
set_option linter.unusedSimpArgs false
/-! ### laws_FnExactLogOpen: function 15 -/
def laws_FnExactLogOpen.j0 : Nat → List (S58) → List Int → List Int → Bool → Option (Bool)
  | 0, _, _, _, _ => none
  | k + 1, x0, x4, x6, x42 => if x42 = true then (some false) else ((laws_markIntS.f k x6 1).bind fun bt1159 => ((laws_heldIntS.f k bt1159.2 1).bind fun t1161 => (if t1161 < 0 then (some false) else (if t1161 = bt1159.1 then ((laws_toRecS.f k x0).bind fun t1162 => ((impl_LogOpen.f k t1162).bind fun t1165 => ((laws_eqIntS.f k t1165 x4).bind fun t1168 => (if t1168 = true then ((laws_heldIntS.f k bt1159.2 1).bind fun t1169 => (if t1169 < 0 then (some false) else (if t1169 = bt1159.1 then (some true) else (some false)))) else (some false))))) else (some false)))))
def laws_FnExactLogOpen.f (k : Nat) (l0 : List (S58)) : Option (Bool) := (laws_szRecS.f l0 1048576).bind fun t1138 => (if t1138 < 0 then (some true) else ((laws_toRecS.f k l0).bind fun t1139 => ((spec_LogOpen.f k t1139).bind fun t1142 => ((laws_toRecS.f k l0).bind fun t1145 => ((impl_LogOpen.f k t1145).bind fun t1148 => ((laws_eqIntS.f k t1148 t1142).bind fun t1151 => (if t1151 = true then ((laws_toRecS.f k l0).bind fun t1152 => ((laws_eqRecS.f k t1145 t1152).bind fun t1155 => (if t1155 = true then ((laws_markRecS.f k t1145 1).bind fun bt1156 => (if bt1156.1 < 0 then (laws_FnExactLogOpen.j0 k l0 t1142 t1148 true) else ((laws_eqIntS.f k t1148 t1142).bind fun t1158 => (laws_FnExactLogOpen.j0 k l0 t1142 t1148 (!t1158))))) else (some false)))) else (some false))))))))
theorem laws_FnExactLogOpen.mono_l : ∀ k, (∀ y0 y1 y2 y3, LeO (laws_FnExactLogOpen.j0 k y0 y1 y2 y3) (laws_FnExactLogOpen.j0 (k + 1) y0 y1 y2 y3))
  | 0 => fun _ _ _ _ r h => by simp [laws_FnExactLogOpen.j0] at h
  | k + 1 => by
    have ih0 := laws_FnExactLogOpen.mono_l k
    · intro y0 y1 y2 y3
      unfold laws_FnExactLogOpen.j0
      repeat' first
      | (with_reducible exact ih0 _ _ _ _)
      | (with_reducible exact impl_LogOpen.mono _ _)
      | (with_reducible exact laws_eqIntS.mono _ _ _)
      | (with_reducible exact laws_eqRecS.mono _ _ _)
      | (with_reducible exact laws_heldIntS.mono _ _ _)
      | (with_reducible exact laws_markIntS.mono _ _ _)
      | (with_reducible exact laws_markRecS.mono _ _ _)
      | (with_reducible exact laws_toRecS.mono _ _)
      | (with_reducible exact spec_LogOpen.mono _ _)
      | (with_reducible exact LeO.refl _)
      | (with_reducible exact LeO.none _)
      | (with_reducible refine LeO.ite ?_ ?_)
      | (with_reducible refine LeO.bind ?_ (fun _ => ?_))
      | exact ih0 _ _ _ _
      | exact impl_LogOpen.mono _ _
      | exact laws_eqIntS.mono _ _ _
      | exact laws_eqRecS.mono _ _ _
      | exact laws_heldIntS.mono _ _ _
      | exact laws_markIntS.mono _ _ _
      | exact laws_markRecS.mono _ _ _
      | exact laws_toRecS.mono _ _
      | exact spec_LogOpen.mono _ _
      | exact LeO.none _
      | refine LeO.ite ?_ ?_
      | refine LeO.bind ?_ (fun _ => ?_)
theorem laws_FnExactLogOpen.mono : ∀ a0 k, LeO (laws_FnExactLogOpen.f k a0) (laws_FnExactLogOpen.f (k + 1) a0) := by
  intro a0 k
  have ih0 := laws_FnExactLogOpen.mono_l k
  unfold laws_FnExactLogOpen.f
  repeat' first
      | (with_reducible exact ih0 _ _ _ _)
      | (with_reducible exact impl_LogOpen.mono _ _)
      | (with_reducible exact laws_eqIntS.mono _ _ _)
      | (with_reducible exact laws_eqRecS.mono _ _ _)
      | (with_reducible exact laws_heldIntS.mono _ _ _)
      | (with_reducible exact laws_markIntS.mono _ _ _)
      | (with_reducible exact laws_markRecS.mono _ _ _)
      | (with_reducible exact laws_toRecS.mono _ _)
      | (with_reducible exact spec_LogOpen.mono _ _)
      | (with_reducible exact LeO.refl _)
      | (with_reducible exact LeO.none _)
      | (with_reducible refine LeO.ite ?_ ?_)
      | (with_reducible refine LeO.bind ?_ (fun _ => ?_))
      | exact ih0 _ _ _ _
      | exact impl_LogOpen.mono _ _
      | exact laws_eqIntS.mono _ _ _
      | exact laws_eqRecS.mono _ _ _
      | exact laws_heldIntS.mono _ _ _
      | exact laws_markIntS.mono _ _ _
      | exact laws_markRecS.mono _ _ _
      | exact laws_toRecS.mono _ _
      | exact spec_LogOpen.mono _ _
      | exact LeO.none _
      | refine LeO.ite ?_ ?_
      | refine LeO.bind ?_ (fun _ => ?_)
set_option maxHeartbeats 8000000 in
set_option maxRecDepth 100000 in
theorem laws_FnExactLogOpen.calls (k : Nat) (A0 : Option Addr) (c0 : Nat) (l0 : List (S58)) (r : Bool) (w : World) (hr0 : Kd.C k58 w A0 l0.length l0) (hc0 : l0.length ≤ c0) (h : laws_FnExactLogOpen.f k l0 = some r) (hT_ : Aside0 (r = true)) :
    Calls Try.prog 15 #[.slice A0 l0.length c0] w fun e w' => e = .returned (.bool r) ∧ Below w.heap.size w w' := by
  have HR0 := Aside0.mk hr0
  have HC0 := Aside0.mk hc0
  clear hr0 hc0
  have HB := Aside0.mk (Below.refl w.heap.size w)
  have H : ((laws_szRecS.f l0 1048576).bind fun t1138 => (if t1138 < 0 then (some true) else ((laws_toRecS.f k l0).bind fun t1139 => ((spec_LogOpen.f k t1139).bind fun t1142 => ((laws_toRecS.f k l0).bind fun t1145 => ((impl_LogOpen.f k t1145).bind fun t1148 => ((laws_eqIntS.f k t1148 t1142).bind fun t1151 => (if t1151 = true then ((laws_toRecS.f k l0).bind fun t1152 => ((laws_eqRecS.f k t1145 t1152).bind fun t1155 => (if t1155 = true then ((laws_markRecS.f k t1145 1).bind fun bt1156 => (if bt1156.1 < 0 then (laws_FnExactLogOpen.j0 k l0 t1142 t1148 true) else ((laws_eqIntS.f k t1148 t1142).bind fun t1158 => (laws_FnExactLogOpen.j0 k l0 t1142 t1148 (!t1158))))) else (some false)))) else (some false))))))))) = some r := h
  clear h
  replace H := Option.bind_eq_some_iff.mp H
  obtain ⟨t1138, A20, H⟩ := H
  replace H : (if t1138 < 0 then (some true) else ((laws_toRecS.f k l0).bind fun t1139 => ((spec_LogOpen.f k t1139).bind fun t1142 => ((laws_toRecS.f k l0).bind fun t1145 => ((impl_LogOpen.f k t1145).bind fun t1148 => ((laws_eqIntS.f k t1148 t1142).bind fun t1151 => (if t1151 = true then ((laws_toRecS.f k l0).bind fun t1152 => ((laws_eqRecS.f k t1145 t1152).bind fun t1155 => (if t1155 = true then ((laws_markRecS.f k t1145 1).bind fun bt1156 => (if bt1156.1 < 0 then (laws_FnExactLogOpen.j0 k l0 t1142 t1148 true) else ((laws_eqIntS.f k t1148 t1142).bind fun t1158 => (laws_FnExactLogOpen.j0 k l0 t1142 t1148 (!t1158))))) else (some false)))) else (some false)))))))) = some r := H
  have A2 := Aside0.mk A20
  clear A20
  by_cases c3 : t1138 < 0
  · rw [if_pos c3] at H
    have c3b0 : decide (t1138 < 0) = true := decide_eq_true c3
    clear c3
    obtain rfl := Option.some.inj H
    go_enter Try.func15, Try.ntmps15
    go_wp2_with (first | ((with_reducible refine gate_callee (f := 31) rfl ?_); refine goesL_ (some 13) rfl rfl Try.func31 (by kernel_rfl) rfl #[.slice A0 l0.length c0, .int .i64 1048576] rfl (by (try simp only [List.map_toArray, List.map_cons, List.map_nil]); first | done | rfl | (simp only [List.length_drop, List.length_take]; rfl)) ?_; (with_reducible refine (laws_szRecS.calls _ _ l0 1048576 t1138 _ ?side1 ?side2 A2.out).mono ?_); (case side1 => repeat (first | exact HR0.out | (with_reducible refine Kd.C_alloc ?_ _) | (with_reducible refine Kd.C_drewN ?_ _) | (with_reducible refine Kd.C_drew ?_))); (case side2 => exact HC0.out); rintro e w' ⟨rfl, ⟨nd, rfl⟩⟩; refine ⟨_, rfl, ?_⟩))
    go_ret
    exact ⟨by first | rfl | (simp [errW_none, errW_some] <;> rfl) | (simp [*, errW_none, errW_some] <;> rfl), by repeat (first | (with_reducible first | exact HB.out | apply below_alloc | apply pw_below_drewN | apply below_drew1) | exact HB.out)⟩
  · rw [if_neg c3] at H
    have c3b0 : decide (t1138 < 0) = false := decide_eq_false c3
    clear c3
    replace H := Option.bind_eq_some_iff.mp H
    obtain ⟨t1139, A40, H⟩ := H
    replace H : ((spec_LogOpen.f k t1139).bind fun t1142 => ((laws_toRecS.f k l0).bind fun t1145 => ((impl_LogOpen.f k t1145).bind fun t1148 => ((laws_eqIntS.f k t1148 t1142).bind fun t1151 => (if t1151 = true then ((laws_toRecS.f k l0).bind fun t1152 => ((laws_eqRecS.f k t1145 t1152).bind fun t1155 => (if t1155 = true then ((laws_markRecS.f k t1145 1).bind fun bt1156 => (if bt1156.1 < 0 then (laws_FnExactLogOpen.j0 k l0 t1142 t1148 true) else ((laws_eqIntS.f k t1148 t1142).bind fun t1158 => (laws_FnExactLogOpen.j0 k l0 t1142 t1148 (!t1158))))) else (some false)))) else (some false)))))) = some r := H
    have A4 := Aside0.mk A40
    clear A40
    replace H := Option.bind_eq_some_iff.mp H
    obtain ⟨t1142, A50, H⟩ := H
    replace H : ((laws_toRecS.f k l0).bind fun t1145 => ((impl_LogOpen.f k t1145).bind fun t1148 => ((laws_eqIntS.f k t1148 t1142).bind fun t1151 => (if t1151 = true then ((laws_toRecS.f k l0).bind fun t1152 => ((laws_eqRecS.f k t1145 t1152).bind fun t1155 => (if t1155 = true then ((laws_markRecS.f k t1145 1).bind fun bt1156 => (if bt1156.1 < 0 then (laws_FnExactLogOpen.j0 k l0 t1142 t1148 true) else ((laws_eqIntS.f k t1148 t1142).bind fun t1158 => (laws_FnExactLogOpen.j0 k l0 t1142 t1148 (!t1158))))) else (some false)))) else (some false))))) = some r := H
    have A5 := Aside0.mk A50
    clear A50
    replace H := Option.bind_eq_some_iff.mp H
    obtain ⟨t1145, A60, H⟩ := H
    replace H : ((impl_LogOpen.f k t1145).bind fun t1148 => ((laws_eqIntS.f k t1148 t1142).bind fun t1151 => (if t1151 = true then ((laws_toRecS.f k l0).bind fun t1152 => ((laws_eqRecS.f k t1145 t1152).bind fun t1155 => (if t1155 = true then ((laws_markRecS.f k t1145 1).bind fun bt1156 => (if bt1156.1 < 0 then (laws_FnExactLogOpen.j0 k l0 t1142 t1148 true) else ((laws_eqIntS.f k t1148 t1142).bind fun t1158 => (laws_FnExactLogOpen.j0 k l0 t1142 t1148 (!t1158))))) else (some false)))) else (some false)))) = some r := H
    have A6 := Aside0.mk A60
    clear A60
    replace H := Option.bind_eq_some_iff.mp H
    obtain ⟨t1148, A70, H⟩ := H
    replace H : ((laws_eqIntS.f k t1148 t1142).bind fun t1151 => (if t1151 = true then ((laws_toRecS.f k l0).bind fun t1152 => ((laws_eqRecS.f k t1145 t1152).bind fun t1155 => (if t1155 = true then ((laws_markRecS.f k t1145 1).bind fun bt1156 => (if bt1156.1 < 0 then (laws_FnExactLogOpen.j0 k l0 t1142 t1148 true) else ((laws_eqIntS.f k t1148 t1142).bind fun t1158 => (laws_FnExactLogOpen.j0 k l0 t1142 t1148 (!t1158))))) else (some false)))) else (some false))) = some r := H
    have A7 := Aside0.mk A70
    clear A70
    replace H := Option.bind_eq_some_iff.mp H
    obtain ⟨t1151, A80, H⟩ := H
    replace H : (if t1151 = true then ((laws_toRecS.f k l0).bind fun t1152 => ((laws_eqRecS.f k t1145 t1152).bind fun t1155 => (if t1155 = true then ((laws_markRecS.f k t1145 1).bind fun bt1156 => (if bt1156.1 < 0 then (laws_FnExactLogOpen.j0 k l0 t1142 t1148 true) else ((laws_eqIntS.f k t1148 t1142).bind fun t1158 => (laws_FnExactLogOpen.j0 k l0 t1142 t1148 (!t1158))))) else (some false)))) else (some false)) = some r := H
    have A8 := Aside0.mk A80
    clear A80
    by_cases c9 : t1151 = true
    · subst c9
      have H1 : ((laws_toRecS.f k l0).bind fun t1152 => ((laws_eqRecS.f k t1145 t1152).bind fun t1155 => (if t1155 = true then ((laws_markRecS.f k t1145 1).bind fun bt1156 => (if bt1156.1 < 0 then (laws_FnExactLogOpen.j0 k l0 t1142 t1148 true) else ((laws_eqIntS.f k t1148 t1142).bind fun t1158 => (laws_FnExactLogOpen.j0 k l0 t1142 t1148 (!t1158))))) else (some false)))) = some r := by rw [if_pos rfl] at H; exact H
      clear H
      have H := H1
      clear H1
      replace H := Option.bind_eq_some_iff.mp H
      obtain ⟨t1152, A100, H⟩ := H
      replace H : ((laws_eqRecS.f k t1145 t1152).bind fun t1155 => (if t1155 = true then ((laws_markRecS.f k t1145 1).bind fun bt1156 => (if bt1156.1 < 0 then (laws_FnExactLogOpen.j0 k l0 t1142 t1148 true) else ((laws_eqIntS.f k t1148 t1142).bind fun t1158 => (laws_FnExactLogOpen.j0 k l0 t1142 t1148 (!t1158))))) else (some false))) = some r := H
      have A10 := Aside0.mk A100
      clear A100
      replace H := Option.bind_eq_some_iff.mp H
      obtain ⟨t1155, A110, H⟩ := H
      replace H : (if t1155 = true then ((laws_markRecS.f k t1145 1).bind fun bt1156 => (if bt1156.1 < 0 then (laws_FnExactLogOpen.j0 k l0 t1142 t1148 true) else ((laws_eqIntS.f k t1148 t1142).bind fun t1158 => (laws_FnExactLogOpen.j0 k l0 t1142 t1148 (!t1158))))) else (some false)) = some r := H
      have A11 := Aside0.mk A110
      clear A110
      by_cases c12 : t1155 = true
      · subst c12
        have H1 : ((laws_markRecS.f k t1145 1).bind fun bt1156 => (if bt1156.1 < 0 then (laws_FnExactLogOpen.j0 k l0 t1142 t1148 true) else ((laws_eqIntS.f k t1148 t1142).bind fun t1158 => (laws_FnExactLogOpen.j0 k l0 t1142 t1148 (!t1158))))) = some r := by rw [if_pos rfl] at H; exact H
        clear H
        have H := H1
        clear H1
        replace H := Option.bind_eq_some_iff.mp H
        obtain ⟨⟨t1156, t1157⟩, A130, H⟩ := H
        replace H : (if t1156 < 0 then (laws_FnExactLogOpen.j0 k l0 t1142 t1148 true) else ((laws_eqIntS.f k t1148 t1142).bind fun t1158 => (laws_FnExactLogOpen.j0 k l0 t1142 t1148 (!t1158)))) = some r := H
        have A13 := Aside0.mk A130
        clear A130
        have HC14 := Aside0.mk H
        clear H
        go_enter Try.func15, Try.ntmps15
        go_upto_region 14 with (first | ((with_reducible refine gate_callee (f := 31) rfl ?_); refine goesL_ (some 13) rfl rfl Try.func31 (by kernel_rfl) rfl #[.slice A0 l0.length c0, .int .i64 1048576] rfl (by (try simp only [List.map_toArray, List.map_cons, List.map_nil]); first | done | rfl | (simp only [List.length_drop, List.length_take]; rfl)) ?_; (with_reducible refine (laws_szRecS.calls _ _ l0 1048576 t1138 _ ?side1 ?side2 A2.out).mono ?_); (case side1 => repeat (first | exact HR0.out | (with_reducible refine Kd.C_alloc ?_ _) | (with_reducible refine Kd.C_drewN ?_ _) | (with_reducible refine Kd.C_drew ?_))); (case side2 => exact HC0.out); rintro e w' ⟨rfl, ⟨nd, rfl⟩⟩; refine ⟨_, rfl, ?_⟩) | ((with_reducible refine gate_callee (f := 33) rfl ?_); refine goesL_ (some 17) rfl rfl Try.func33 (by kernel_rfl) rfl #[.slice A0 l0.length c0] rfl (by (try simp only [List.map_toArray, List.map_cons, List.map_nil]); first | done | rfl | (simp only [List.length_drop, List.length_take]; rfl)) ?_; (with_reducible refine (laws_toRecS.calls k _ _ l0 t1139 _ ?side1 ?side2 A4.out).mono ?_); (case side1 => repeat (first | exact HR0.out | (with_reducible refine Kd.C_alloc ?_ _) | (with_reducible refine Kd.C_drewN ?_ _) | (with_reducible refine Kd.C_drew ?_))); (case side2 => exact HC0.out); rintro e w15 ⟨v1140, rfl, ho0, hb⟩; refine ⟨_, rfl, ?_⟩; have n0_ := Aside0.mk (Kd.R_lower ho0 (below_size (by repeat (first | (with_reducible first | exact HB.out | apply below_alloc | apply pw_below_drewN | apply below_drew1) | exact HB.out)))); have n1_ := Aside0.mk (below_step (by repeat (first | (with_reducible first | exact HB.out | apply below_alloc | apply pw_below_drewN | apply below_drew1) | exact HB.out)) hb); clear HB; have HO1141 := n0_; have HB := n1_; clear n0_ n1_; (try clear hb); (try clear hb2); (try clear hk); (try clear hi); (try clear ho0); obtain ⟨Ao16, co16, eo16⟩ := Kd.R_slice HO1141.out; subst eo16) | ((with_reducible refine gate_callee (f := 65) rfl ?_); refine goesL_ (some 18) rfl rfl Try.func65 (by kernel_rfl) rfl #[.slice Ao16 t1139.length co16] rfl (by (try simp only [List.map_toArray, List.map_cons, List.map_nil]); first | done | rfl | (simp only [List.length_drop, List.length_take]; rfl)) ?_; (with_reducible refine (spec_LogOpen.calls k _ _ t1139 t1142 _ ?side1 ?side2 A5.out).mono ?_); (case side1 => repeat (first | exact (Kd.R_reads' HO1141.out).2.2 | (with_reducible refine Kd.C_alloc ?_ _) | (with_reducible refine Kd.C_drewN ?_ _) | (with_reducible refine Kd.C_drew ?_))); (case side2 => exact (Kd.R_reads' HO1141.out).2.1); rintro e w17 ⟨v1143, rfl, ho0, hb⟩; refine ⟨_, rfl, ?_⟩; have n0_ := Aside0.mk (Kd.R_below (by (with_reducible repeat (first | apply Kd.R_alloc | apply Kd.R_drewN | apply Kd.R_drew)); exact HO1141.out) hb); have n1_ := Aside0.mk (Kd.R_lower ho0 (below_size (by repeat (first | (with_reducible first | exact HB.out | apply below_alloc | apply pw_below_drewN | apply below_drew1) | exact HB.out)))); have n2_ := Aside0.mk (below_step (by repeat (first | (with_reducible first | exact HB.out | apply below_alloc | apply pw_below_drewN | apply below_drew1) | exact HB.out)) hb); clear HO1141; clear HB; have HO1141 := n0_; have HO1144 := n1_; have HB := n2_; clear n0_ n1_ n2_; (try clear hb); (try clear hb2); (try clear hk); (try clear hi); (try clear ho0)) | ((with_reducible refine gate_callee (f := 33) rfl ?_); refine goesL_ (some 20) rfl rfl Try.func33 (by kernel_rfl) rfl #[.slice A0 l0.length c0] rfl (by (try simp only [List.map_toArray, List.map_cons, List.map_nil]); first | done | rfl | (simp only [List.length_drop, List.length_take]; rfl)) ?_; (with_reducible refine (laws_toRecS.calls k _ _ l0 t1145 _ ?side1 ?side2 A6.out).mono ?_); (case side1 => repeat (first | exact (Kd.C_below HR0.out HB.out) | (with_reducible refine Kd.C_alloc ?_ _) | (with_reducible refine Kd.C_drewN ?_ _) | (with_reducible refine Kd.C_drew ?_))); (case side2 => exact HC0.out); rintro e w18 ⟨v1146, rfl, ho0, hb⟩; refine ⟨_, rfl, ?_⟩; have n0_ := Aside0.mk (Kd.R_elder' (by (with_reducible repeat (first | apply Kd.R_alloc | apply Kd.R_drewN | apply Kd.R_drew)); exact HO1141.out) (Kd.R_base ho0) hb); have n1_ := Aside0.mk (Kd.R_below (by (with_reducible repeat (first | apply Kd.R_alloc | apply Kd.R_drewN | apply Kd.R_drew)); exact HO1144.out) hb); have n2_ := Aside0.mk (Kd.R_lower (Kd.R_new' ho0 (Kd.R_lt (by (with_reducible repeat (first | apply Kd.R_alloc | apply Kd.R_drewN | apply Kd.R_drew)); exact HO1141.out))) (below_size (by repeat (first | (with_reducible first | exact HB.out | apply below_alloc | apply pw_below_drewN | apply below_drew1) | exact HB.out)))); have n3_ := Aside0.mk (below_step (by repeat (first | (with_reducible first | exact HB.out | apply below_alloc | apply pw_below_drewN | apply below_drew1) | exact HB.out)) hb); clear HO1141; clear HO1144; clear HB; have HO1141 := n0_; have HO1144 := n1_; have HO1147 := n2_; have HB := n3_; clear n0_ n1_ n2_ n3_; (try clear hb); (try clear hb2); (try clear hk); (try clear hi); (try clear ho0); obtain ⟨Ao19, co19, eo19⟩ := Kd.R_slice HO1147.out; subst eo19) | ((with_reducible refine gate_callee (f := 66) rfl ?_); refine goesL_ (some 22) rfl rfl Try.func66 (by kernel_rfl) rfl #[.slice Ao19 t1145.length co19] rfl (by (try simp only [List.map_toArray, List.map_cons, List.map_nil]); first | done | rfl | (simp only [List.length_drop, List.length_take]; rfl)) ?_; (with_reducible refine (impl_LogOpen.calls k _ _ t1145 t1148 _ ?side1 ?side2 A7.out).mono ?_); (case side1 => repeat (first | exact (Kd.R_reads' HO1147.out).2.2 | (with_reducible refine Kd.C_alloc ?_ _) | (with_reducible refine Kd.C_drewN ?_ _) | (with_reducible refine Kd.C_drew ?_))); (case side2 => exact (Kd.R_reads' HO1147.out).2.1); rintro e w20 ⟨v1149, rfl, ho0, hb⟩; refine ⟨_, rfl, ?_⟩; have n0_ := Aside0.mk (Kd.R_below (by (with_reducible repeat (first | apply Kd.R_alloc | apply Kd.R_drewN | apply Kd.R_drew)); exact HO1141.out) hb); have n1_ := Aside0.mk (Kd.R_elder' (by (with_reducible repeat (first | apply Kd.R_alloc | apply Kd.R_drewN | apply Kd.R_drew)); exact HO1144.out) (Kd.R_base ho0) hb); have n2_ := Aside0.mk (Kd.R_below (by (with_reducible repeat (first | apply Kd.R_alloc | apply Kd.R_drewN | apply Kd.R_drew)); exact HO1147.out) hb); have n3_ := Aside0.mk (Kd.R_lower (Kd.R_new' ho0 (Kd.R_lt (by (with_reducible repeat (first | apply Kd.R_alloc | apply Kd.R_drewN | apply Kd.R_drew)); exact HO1144.out))) (below_size (by repeat (first | (with_reducible first | exact HB.out | apply below_alloc | apply pw_below_drewN | apply below_drew1) | exact HB.out)))); have n4_ := Aside0.mk (below_step (by repeat (first | (with_reducible first | exact HB.out | apply below_alloc | apply pw_below_drewN | apply below_drew1) | exact HB.out)) hb); clear HO1141; clear HO1144; clear HO1147; clear HB; have HO1141 := n0_; have HO1144 := n1_; have HO1147 := n2_; have HO1150 := n3_; have HB := n4_; clear n0_ n1_ n2_ n3_ n4_; (try clear hb); (try clear hb2); (try clear hk); (try clear hi); (try clear ho0); obtain ⟨Ao21, co21, eo21⟩ := Kd.R_slice HO1150.out; subst eo21; obtain ⟨Ao22, co22, eo22⟩ := Kd.R_slice HO1144.out; subst eo22) | ((with_reducible refine gate_callee (f := 60) rfl ?_); refine goesL_ (some 25) rfl rfl Try.func60 (by kernel_rfl) rfl #[.slice Ao21 t1148.length co21, .slice Ao22 t1142.length co22] rfl (by (try simp only [List.map_toArray, List.map_cons, List.map_nil]); first | done | rfl | (simp only [List.length_drop, List.length_take]; rfl)) ?_; (with_reducible refine (laws_eqIntS.calls k _ _ t1148 _ _ t1142 true _ ?side1 ?side2 ?side3 ?side4 A8.out).mono ?_); (case side1 => repeat (first | exact (Kd.R_reads' HO1150.out).2.2 | (with_reducible refine Kd.C_alloc ?_ _) | (with_reducible refine Kd.C_drewN ?_ _) | (with_reducible refine Kd.C_drew ?_))); (case side2 => exact (Kd.R_reads' HO1150.out).2.1); (case side3 => repeat (first | exact (Kd.R_reads' HO1144.out).2.2 | (with_reducible refine Kd.C_alloc ?_ _) | (with_reducible refine Kd.C_drewN ?_ _) | (with_reducible refine Kd.C_drew ?_))); (case side4 => exact (Kd.R_reads' HO1144.out).2.1); rintro e w' ⟨rfl, ⟨nd, rfl⟩⟩; refine ⟨_, rfl, ?_⟩) | ((with_reducible refine gate_callee (f := 33) rfl ?_); refine goesL_ (some 29) rfl rfl Try.func33 (by kernel_rfl) rfl #[.slice A0 l0.length c0] rfl (by (try simp only [List.map_toArray, List.map_cons, List.map_nil]); first | done | rfl | (simp only [List.length_drop, List.length_take]; rfl)) ?_; (with_reducible refine (laws_toRecS.calls k _ _ l0 t1152 _ ?side1 ?side2 A10.out).mono ?_); (case side1 => repeat (first | exact (Kd.C_below HR0.out (by repeat (first | (with_reducible first | exact HB.out | apply below_alloc | apply pw_below_drewN | apply below_drew1) | exact HB.out))) | (with_reducible refine Kd.C_alloc ?_ _) | (with_reducible refine Kd.C_drewN ?_ _) | (with_reducible refine Kd.C_drew ?_))); (case side2 => exact HC0.out); rintro e w23 ⟨v1153, rfl, ho0, hb⟩; refine ⟨_, rfl, ?_⟩; have n0_ := Aside0.mk (Kd.R_elder' (by (with_reducible repeat (first | apply Kd.R_alloc | apply Kd.R_drewN | apply Kd.R_drew)); exact HO1141.out) (Kd.R_base ho0) hb); have n1_ := Aside0.mk (Kd.R_below (by (with_reducible repeat (first | apply Kd.R_alloc | apply Kd.R_drewN | apply Kd.R_drew)); exact HO1144.out) hb); have n2_ := Aside0.mk (Kd.R_elder' (by (with_reducible repeat (first | apply Kd.R_alloc | apply Kd.R_drewN | apply Kd.R_drew)); exact HO1147.out) (Kd.R_base ho0) hb); have n3_ := Aside0.mk (Kd.R_below (by (with_reducible repeat (first | apply Kd.R_alloc | apply Kd.R_drewN | apply Kd.R_drew)); exact HO1150.out) hb); have n4_ := Aside0.mk (Kd.R_lower (Kd.R_new' (Kd.R_new' ho0 (Kd.R_lt (by (with_reducible repeat (first | apply Kd.R_alloc | apply Kd.R_drewN | apply Kd.R_drew)); exact HO1141.out))) (Kd.R_lt (by (with_reducible repeat (first | apply Kd.R_alloc | apply Kd.R_drewN | apply Kd.R_drew)); exact HO1147.out))) (below_size (by repeat (first | (with_reducible first | exact HB.out | apply below_alloc | apply pw_below_drewN | apply below_drew1) | exact HB.out)))); have n5_ := Aside0.mk (below_step (by repeat (first | (with_reducible first | exact HB.out | apply below_alloc | apply pw_below_drewN | apply below_drew1) | exact HB.out)) hb); clear HO1141; clear HO1144; clear HO1147; clear HO1150; clear HB; have HO1141 := n0_; have HO1144 := n1_; have HO1147 := n2_; have HO1150 := n3_; have HO1154 := n4_; have HB := n5_; clear n0_ n1_ n2_ n3_ n4_ n5_; (try clear hb); (try clear hb2); (try clear hk); (try clear hi); (try clear ho0); obtain ⟨Ao24, co24, eo24⟩ := Kd.R_slice HO1154.out; subst eo24) | ((with_reducible refine gate_callee (f := 35) rfl ?_); refine goesL_ (some 30) rfl rfl Try.func35 (by kernel_rfl) rfl #[.slice Ao19 t1145.length co19, .slice Ao24 t1152.length co24] rfl (by (try simp only [List.map_toArray, List.map_cons, List.map_nil]); first | done | rfl | (simp only [List.length_drop, List.length_take]; rfl)) ?_; (with_reducible refine (laws_eqRecS.calls k _ _ t1145 _ _ t1152 true _ ?side1 ?side2 ?side3 ?side4 A11.out).mono ?_); (case side1 => repeat (first | exact (Kd.R_reads' HO1147.out).2.2 | (with_reducible refine Kd.C_alloc ?_ _) | (with_reducible refine Kd.C_drewN ?_ _) | (with_reducible refine Kd.C_drew ?_))); (case side2 => exact (Kd.R_reads' HO1147.out).2.1); (case side3 => repeat (first | exact (Kd.R_reads' HO1154.out).2.2 | (with_reducible refine Kd.C_alloc ?_ _) | (with_reducible refine Kd.C_drewN ?_ _) | (with_reducible refine Kd.C_drew ?_))); (case side4 => exact (Kd.R_reads' HO1154.out).2.1); rintro e w25 ⟨rfl, hb⟩; refine ⟨_, rfl, ?_⟩; have n0_ := Aside0.mk (Kd.R_below (by (with_reducible repeat (first | apply Kd.R_alloc | apply Kd.R_drewN | apply Kd.R_drew)); exact HO1141.out) hb); have n1_ := Aside0.mk (Kd.R_below (by (with_reducible repeat (first | apply Kd.R_alloc | apply Kd.R_drewN | apply Kd.R_drew)); exact HO1144.out) hb); have n2_ := Aside0.mk (Kd.R_below (by (with_reducible repeat (first | apply Kd.R_alloc | apply Kd.R_drewN | apply Kd.R_drew)); exact HO1147.out) hb); have n3_ := Aside0.mk (Kd.R_below (by (with_reducible repeat (first | apply Kd.R_alloc | apply Kd.R_drewN | apply Kd.R_drew)); exact HO1150.out) hb); have n4_ := Aside0.mk (Kd.R_below (by (with_reducible repeat (first | apply Kd.R_alloc | apply Kd.R_drewN | apply Kd.R_drew)); exact HO1154.out) hb); have n5_ := Aside0.mk (below_step (by repeat (first | (with_reducible first | exact HB.out | apply below_alloc | apply pw_below_drewN | apply below_drew1) | exact HB.out)) hb); clear HO1141; clear HO1144; clear HO1147; clear HO1150; clear HO1154; clear HB; have HO1141 := n0_; have HO1144 := n1_; have HO1147 := n2_; have HO1150 := n3_; have HO1154 := n4_; have HB := n5_; clear n0_ n1_ n2_ n3_ n4_ n5_; (try clear hb); (try clear hb2); (try clear hk); (try clear hi)) | ((with_reducible refine gate_callee (f := 61) rfl ?_); refine goesL_ (some 34) rfl rfl Try.func61 (by kernel_rfl) rfl #[.slice Ao19 t1145.length co19, .int .i64 1] rfl (by (try simp only [List.map_toArray, List.map_cons, List.map_nil]); first | done | rfl | (simp only [List.length_drop, List.length_take]; rfl)) ?_; (with_reducible refine (laws_markRecS.calls k (fun k_ => some k_ = (.slice Ao19 t1145.length co19 : Value).ownBlock) (.slice Ao19 t1145.length co19) t1145 1 t1156 t1157 w _ ?side1 ?side2 A13.out).mono ?_); (case side1 => repeat (first | (with_reducible first | exact HB.out | apply below_alloc | apply pw_below_drewN | apply below_drew1) | exact HB.out)); (case side2 => exact Kd.R_tight rfl HO1147.out); rintro e w26 ⟨rfl, hy0, hb, hkp⟩; refine ⟨_, rfl, ?_⟩; have n0_ := Aside0.mk (Kd.R_mono (ok' := fun k_ => some k_ ≠ (.slice Ao19 t1145.length co19 : Value).ownBlock ∧ some k_ ≠ (.slice Ao24 t1152.length co24 : Value).ownBlock) (Kd.R_keptB (HO1141.out) hkp (fun k_ hk_ hs_ => (hk_.1.2) hs_)) (fun k_ hk_ => ⟨hk_.1.1.2, hk_.1.2⟩)); have n1_ := Aside0.mk (Kd.R_mono (ok' := fun k_ => some k_ ≠ (.slice Ao21 t1148.length co21 : Value).ownBlock) (Kd.R_keptB ((Kd.R_apart' HO1144.out (Kd.R_typed HO1147.out) (by decide))) hkp (fun k_ hk_ hs_ => (hk_.2) hs_)) (fun k_ hk_ => hk_.1.1.2)); have n2_ := Aside0.mk (Kd.R_reok rfl hy0 (fun k_ e_ => HO1147.out.1 k_ e_)); have n3_ := Aside0.mk (Kd.R_mono (ok' := fun k_ => some k_ ≠ (.slice Ao22 t1142.length co22 : Value).ownBlock) (Kd.R_keptB ((Kd.R_apart' HO1150.out (Kd.R_typed HO1147.out) (by decide))) hkp (fun k_ hk_ hs_ => (hk_.2) hs_)) (fun k_ hk_ => hk_.1.1.2)); have n4_ := Aside0.mk (Kd.R_mono (ok' := fun k_ => some k_ ≠ (.slice Ao16 t1139.length co16 : Value).ownBlock ∧ some k_ ≠ (.slice Ao19 t1145.length co19 : Value).ownBlock) (Kd.R_keptB (HO1154.out) hkp (fun k_ hk_ hs_ => (hk_.2) hs_)) (fun k_ hk_ => ⟨hk_.1.1.2, hk_.1.2⟩)); have n5_ := Aside0.mk (hb); clear HO1141; clear HO1144; clear HO1147; clear HO1150; clear HO1154; clear HB; have HO1141 := n0_; have HO1144 := n1_; have HO1147 := n2_; have HO1150 := n3_; have HO1154 := n4_; have HB := n5_; clear n0_ n1_ n2_ n3_ n4_ n5_; (try clear hb); (try clear hkp); (try clear hy0)))
        (try simp only [Act.put, List.setIfInBounds_toArray, List.set_cons_zero, List.set_cons_succ])
        go_cut [42] (fun v42 wc => ∃ (kq : Nat) (x42_13 : Bool), v42 = .bool x42_13 ∧ Aside0 (laws_FnExactLogOpen.j0 kq l0 t1142 t1148 x42_13 = some r) ∧ Aside0 (kq ≤ k) ∧ Aside0 (Kd.R (Kd.int .i64) 3 wc w.heap.size (fun k_ => some k_ ≠ ((.slice Ao21 t1148.length co21) : Value).ownBlock) (.slice Ao22 t1142.length co22) t1142) ∧ Aside0 (Kd.R (Kd.int .i64) 3 wc w.heap.size (fun k_ => some k_ ≠ ((.slice Ao22 t1142.length co22) : Value).ownBlock) (.slice Ao21 t1148.length co21) t1148) ∧ Aside0 (Below w.heap.size w wc))
        case first =>
          have H := HC14.out
          clear HC14
          by_cases c27 : t1156 < 0
          · rw [if_pos c27] at H
            have c27b0 : decide (t1156 < 0) = true := decide_eq_true c27
            clear c27
            (first | rw [c27b0] | (simp only [i64_w, i32_w]; rw [c27b0]) | skip)
            have H' := Aside0.mk H
            clear H
            go_wp2
            go_meet
            case rel => exact ⟨_, (true), (by first | rfl | (simp; done) | (simp [*]; done)), H', ⟨by first | omega | exact Nat.le_refl _⟩, ⟨by (with_reducible repeat (first | apply Kd.R_alloc | apply Kd.R_drewN | apply Kd.R_drew)); exact HO1144.out⟩, ⟨by (with_reducible repeat (first | apply Kd.R_alloc | apply Kd.R_drewN | apply Kd.R_drew)); exact HO1150.out⟩, ⟨by repeat (first | (with_reducible first | exact HB.out | apply below_alloc | apply pw_below_drewN | apply below_drew1) | exact HB.out)⟩⟩
          · rw [if_neg c27] at H
            have c27b0 : decide (t1156 < 0) = false := decide_eq_false c27
            clear c27
            (first | rw [c27b0] | (simp only [i64_w, i32_w]; rw [c27b0]) | skip)
            replace H := Option.bind_eq_some_iff.mp H
            obtain ⟨t1158, A280, H⟩ := H
            replace H : (laws_FnExactLogOpen.j0 k l0 t1142 t1148 (!t1158)) = some r := H
            have A28 := Aside0.mk A280
            clear A280
            have H' := Aside0.mk H
            clear H
            go_wp2_with (first | (go_at_call 60; (with_reducible refine (laws_eqIntS.calls k _ _ t1148 _ _ t1142 t1158 _ ?side1 ?side2 ?side3 ?side4 A28.out).mono ?_); (case side1 => repeat (first | exact (Kd.R_reads' HO1150.out).2.2 | (with_reducible refine Kd.C_alloc ?_ _) | (with_reducible refine Kd.C_drewN ?_ _) | (with_reducible refine Kd.C_drew ?_))); (case side2 => exact (Kd.R_reads' HO1150.out).2.1); (case side3 => repeat (first | exact (Kd.R_reads' HO1144.out).2.2 | (with_reducible refine Kd.C_alloc ?_ _) | (with_reducible refine Kd.C_drewN ?_ _) | (with_reducible refine Kd.C_drew ?_))); (case side4 => exact (Kd.R_reads' HO1144.out).2.1); rintro e w' ⟨rfl, ⟨nd, rfl⟩⟩))
            go_meet
            case rel => exact ⟨_, (!t1158), (by first | rfl | (simp; done) | (simp [*]; done)), H', ⟨by first | omega | exact Nat.le_refl _⟩, ⟨by (with_reducible repeat (first | apply Kd.R_alloc | apply Kd.R_drewN | apply Kd.R_drew)); exact HO1144.out⟩, ⟨by (with_reducible repeat (first | apply Kd.R_alloc | apply Kd.R_drewN | apply Kd.R_drew)); exact HO1150.out⟩, ⟨by repeat (first | (with_reducible first | exact HB.out | apply below_alloc | apply pw_below_drewN | apply below_drew1) | exact HB.out)⟩⟩
        case rest =>
          clear HC14
          try clear c1
          try clear c2
          try clear p2
          try clear c3
          try clear c3b0
          try clear c6
          try clear c9
          try clear c12
          try clear c15
          try clear c27
          try clear c27b0
          obtain ⟨kq, x42_13, rfl, HA, HJ13, HO_4, HO_6, HB⟩ := hcut
          cases kq with
          | zero => exact absurd HA.out (by simp [laws_FnExactLogOpen.j0])
          | succ kj13 =>
            have H := HA.out
            clear HA
            simp only [laws_FnExactLogOpen.j0] at H
            by_cases c29 : x42_13 = true
            · subst c29
              have H1 : (some false) = some r := by rw [if_pos rfl] at H; exact H
              clear H
              have H := H1
              clear H1
              obtain rfl := Option.some.inj H
              exact absurd hT_.out (by simp)
            · replace c29 := Bool.eq_false_iff.mpr c29
              subst c29
              have H1 : ((laws_markIntS.f kj13 t1148 1).bind fun bt1159 => ((laws_heldIntS.f kj13 bt1159.2 1).bind fun t1161 => (if t1161 < 0 then (some false) else (if t1161 = bt1159.1 then ((laws_toRecS.f kj13 l0).bind fun t1162 => ((impl_LogOpen.f kj13 t1162).bind fun t1165 => ((laws_eqIntS.f kj13 t1165 t1142).bind fun t1168 => (if t1168 = true then ((laws_heldIntS.f kj13 bt1159.2 1).bind fun t1169 => (if t1169 < 0 then (some false) else (if t1169 = bt1159.1 then (some true) else (some false)))) else (some false))))) else (some false))))) = some r := by rw [if_neg (show ¬ (false = true) by decide)] at H; exact H
              clear H
              have H := H1
              clear H1
              replace H := Option.bind_eq_some_iff.mp H
              obtain ⟨⟨t1159, t1160⟩, A300, H⟩ := H
              replace H : ((laws_heldIntS.f kj13 t1160 1).bind fun t1161 => (if t1161 < 0 then (some false) else (if t1161 = t1159 then ((laws_toRecS.f kj13 l0).bind fun t1162 => ((impl_LogOpen.f kj13 t1162).bind fun t1165 => ((laws_eqIntS.f kj13 t1165 t1142).bind fun t1168 => (if t1168 = true then ((laws_heldIntS.f kj13 t1160 1).bind fun t1169 => (if t1169 < 0 then (some false) else (if t1169 = t1159 then (some true) else (some false)))) else (some false))))) else (some false)))) = some r := H
              have A30 := Aside0.mk A300
              clear A300
              replace H := Option.bind_eq_some_iff.mp H
              obtain ⟨t1161, A310, H⟩ := H
              replace H : (if t1161 < 0 then (some false) else (if t1161 = t1159 then ((laws_toRecS.f kj13 l0).bind fun t1162 => ((impl_LogOpen.f kj13 t1162).bind fun t1165 => ((laws_eqIntS.f kj13 t1165 t1142).bind fun t1168 => (if t1168 = true then ((laws_heldIntS.f kj13 t1160 1).bind fun t1169 => (if t1169 < 0 then (some false) else (if t1169 = t1159 then (some true) else (some false)))) else (some false))))) else (some false))) = some r := H
              have A31 := Aside0.mk A310
              clear A310
              by_cases c32 : t1161 < 0
              · rw [if_pos c32] at H
                have c32b0 : decide (t1161 < 0) = true := decide_eq_true c32
                clear c32
                obtain rfl := Option.some.inj H
                exact absurd hT_.out (by simp)
              · rw [if_neg c32] at H
                have c32b0 : decide (t1161 < 0) = false := decide_eq_false c32
                clear c32
                by_cases c34 : t1161 = t1159
                · rw [if_pos c34] at H
                  have c34b0 : (t1161 == t1159) = true := beq_iff_eq.mpr c34
                  have c34b1 : (t1161 != t1159) = false := bne_eq_false_iff_eq.mpr c34
                  clear c34
                  replace H := Option.bind_eq_some_iff.mp H
                  obtain ⟨t1162, A350, H⟩ := H
                  replace H : ((impl_LogOpen.f kj13 t1162).bind fun t1165 => ((laws_eqIntS.f kj13 t1165 t1142).bind fun t1168 => (if t1168 = true then ((laws_heldIntS.f kj13 t1160 1).bind fun t1169 => (if t1169 < 0 then (some false) else (if t1169 = t1159 then (some true) else (some false)))) else (some false)))) = some r := H
                  have A35 := Aside0.mk A350
                  clear A350
                  replace H := Option.bind_eq_some_iff.mp H
                  obtain ⟨t1165, A360, H⟩ := H
                  replace H : ((laws_eqIntS.f kj13 t1165 t1142).bind fun t1168 => (if t1168 = true then ((laws_heldIntS.f kj13 t1160 1).bind fun t1169 => (if t1169 < 0 then (some false) else (if t1169 = t1159 then (some true) else (some false)))) else (some false))) = some r := H
                  have A36 := Aside0.mk A360
                  clear A360
                  replace H := Option.bind_eq_some_iff.mp H
                  obtain ⟨t1168, A370, H⟩ := H
                  replace H : (if t1168 = true then ((laws_heldIntS.f kj13 t1160 1).bind fun t1169 => (if t1169 < 0 then (some false) else (if t1169 = t1159 then (some true) else (some false)))) else (some false)) = some r := H
                  have A37 := Aside0.mk A370
                  clear A370
                  by_cases c38 : t1168 = true
                  · subst c38
                    have H1 : ((laws_heldIntS.f kj13 t1160 1).bind fun t1169 => (if t1169 < 0 then (some false) else (if t1169 = t1159 then (some true) else (some false)))) = some r := by rw [if_pos rfl] at H; exact H
                    clear H
                    have H := H1
                    clear H1
                    replace H := Option.bind_eq_some_iff.mp H
                    obtain ⟨t1169, A390, H⟩ := H
                    replace H : (if t1169 < 0 then (some false) else (if t1169 = t1159 then (some true) else (some false))) = some r := H
                    have A39 := Aside0.mk A390
                    clear A390
                    by_cases c40 : t1169 < 0
                    · rw [if_pos c40] at H
                      have c40b0 : decide (t1169 < 0) = true := decide_eq_true c40
                      clear c40
                      obtain rfl := Option.some.inj H
                      exact absurd hT_.out (by simp)
                    · rw [if_neg c40] at H
                      have c40b0 : decide (t1169 < 0) = false := decide_eq_false c40
                      clear c40
                      by_cases c46 : t1169 = t1159
                      · rw [if_pos c46] at H
                        have c46b0 : (t1169 == t1159) = true := beq_iff_eq.mpr c46
                        have c46b1 : (t1169 != t1159) = false := bne_eq_false_iff_eq.mpr c46
                        clear c46
                        obtain rfl := Option.some.inj H
                        go_wp2_with (first | ((with_reducible refine gate_callee (f := 62) rfl ?_); refine goesL_ (some 45) rfl rfl Try.func62 (by kernel_rfl) rfl #[.slice Ao21 t1148.length co21, .int .i64 1] rfl (by (try simp only [List.map_toArray, List.map_cons, List.map_nil]); first | done | rfl | (simp only [List.length_drop, List.length_take]; rfl)) ?_; (with_reducible refine (laws_markIntS.calls kj13 (fun k_ => some k_ = (.slice Ao21 t1148.length co21 : Value).ownBlock) (.slice Ao21 t1148.length co21) t1148 1 t1159 t1160 w _ ?side1 ?side2 A30.out).mono ?_); (case side1 => repeat (first | (with_reducible first | exact HB.out | apply below_alloc | apply pw_below_drewN | apply below_drew1) | exact HB.out)); (case side2 => exact Kd.R_tight rfl HO_6.out); rintro e w47 ⟨rfl, hy0, hb, hkp⟩; refine ⟨_, rfl, ?_⟩; have n0_ := Aside0.mk (Kd.R_mono (ok' := fun k_ => some k_ ≠ (.slice Ao21 t1148.length co21 : Value).ownBlock) (Kd.R_keptB (HO_4.out) hkp (fun k_ hk_ hs_ => (hk_) hs_)) (fun k_ hk_ => hk_.1)); have n1_ := Aside0.mk (Kd.R_reok rfl hy0 (fun k_ e_ => HO_6.out.1 k_ e_)); have n2_ := Aside0.mk (hb); clear HO_4; clear HO_6; clear HB; have HO_4 := n0_; have HO_6 := n1_; have HB := n2_; clear n0_ n1_ n2_; (try clear hb); (try clear hkp); (try clear hy0)) | ((with_reducible refine gate_callee (f := 63) rfl ?_); refine goesL_ (some 48) rfl rfl Try.func63 (by kernel_rfl) rfl #[.slice Ao21 t1160.length co21, .int .i64 1] rfl (by (try simp only [List.map_toArray, List.map_cons, List.map_nil]); first | done | (rw [show t1160.length = t1148.length from (Kd.R_reads' HO_6.out).1.symm] <;> rfl) | rfl | (simp only [List.length_drop, List.length_take]; rfl)) ?_; (with_reducible refine (laws_heldIntS.calls kj13 _ _ t1160 1 t1161 _ ?side1 ?side2 A31.out).mono ?_); (case side1 => repeat (first | exact (Kd.R_reads' HO_6.out).2.2 | (with_reducible refine Kd.C_alloc ?_ _) | (with_reducible refine Kd.C_drewN ?_ _) | (with_reducible refine Kd.C_drew ?_))); (case side2 => rw [show t1160.length = t1148.length from (Kd.R_reads' HO_6.out).1.symm]; exact (Kd.R_reads' HO_6.out).2.1); rintro e w' ⟨rfl, ⟨nd, rfl⟩⟩; refine ⟨_, rfl, ?_⟩) | ((with_reducible refine gate_callee (f := 33) rfl ?_); refine goesL_ (some 55) rfl rfl Try.func33 (by kernel_rfl) rfl #[.slice A0 l0.length c0] rfl (by (try simp only [List.map_toArray, List.map_cons, List.map_nil]); first | done | rfl | (simp only [List.length_drop, List.length_take]; rfl)) ?_; (with_reducible refine (laws_toRecS.calls kj13 _ _ l0 t1162 _ ?side1 ?side2 A35.out).mono ?_); (case side1 => repeat (first | exact (Kd.C_below HR0.out (by repeat (first | (with_reducible first | exact HB.out | apply below_alloc | apply pw_below_drewN | apply below_drew1) | exact HB.out))) | (with_reducible refine Kd.C_alloc ?_ _) | (with_reducible refine Kd.C_drewN ?_ _) | (with_reducible refine Kd.C_drew ?_))); (case side2 => exact HC0.out); rintro e w48 ⟨v1163, rfl, ho0, hb⟩; refine ⟨_, rfl, ?_⟩; have n0_ := Aside0.mk (Kd.R_below (by (with_reducible repeat (first | apply Kd.R_alloc | apply Kd.R_drewN | apply Kd.R_drew)); exact HO_4.out) hb); have n1_ := Aside0.mk (Kd.R_below (by (with_reducible repeat (first | apply Kd.R_alloc | apply Kd.R_drewN | apply Kd.R_drew)); exact HO_6.out) hb); have n2_ := Aside0.mk (Kd.R_lower ho0 (below_size (by repeat (first | (with_reducible first | exact HB.out | apply below_alloc | apply pw_below_drewN | apply below_drew1) | exact HB.out)))); have n3_ := Aside0.mk (below_step (by repeat (first | (with_reducible first | exact HB.out | apply below_alloc | apply pw_below_drewN | apply below_drew1) | exact HB.out)) hb); clear HO_4; clear HO_6; clear HB; have HO_4 := n0_; have HO_6 := n1_; have HO1164 := n2_; have HB := n3_; clear n0_ n1_ n2_ n3_; (try clear hb); (try clear hb2); (try clear hk); (try clear hi); (try clear ho0); obtain ⟨Ao49, co49, eo49⟩ := Kd.R_slice HO1164.out; subst eo49) | ((with_reducible refine gate_callee (f := 66) rfl ?_); refine goesL_ (some 56) rfl rfl Try.func66 (by kernel_rfl) rfl #[.slice Ao49 t1162.length co49] rfl (by (try simp only [List.map_toArray, List.map_cons, List.map_nil]); first | done | rfl | (simp only [List.length_drop, List.length_take]; rfl)) ?_; (with_reducible refine (impl_LogOpen.calls kj13 _ _ t1162 t1165 _ ?side1 ?side2 A36.out).mono ?_); (case side1 => repeat (first | exact (Kd.R_reads' HO1164.out).2.2 | (with_reducible refine Kd.C_alloc ?_ _) | (with_reducible refine Kd.C_drewN ?_ _) | (with_reducible refine Kd.C_drew ?_))); (case side2 => exact (Kd.R_reads' HO1164.out).2.1); rintro e w50 ⟨v1166, rfl, ho0, hb⟩; refine ⟨_, rfl, ?_⟩; have n0_ := Aside0.mk (Kd.R_elder' (by (with_reducible repeat (first | apply Kd.R_alloc | apply Kd.R_drewN | apply Kd.R_drew)); exact HO_4.out) (Kd.R_base ho0) hb); have n1_ := Aside0.mk (Kd.R_elder' (by (with_reducible repeat (first | apply Kd.R_alloc | apply Kd.R_drewN | apply Kd.R_drew)); exact HO_6.out) (Kd.R_base ho0) hb); have n2_ := Aside0.mk (Kd.R_below (by (with_reducible repeat (first | apply Kd.R_alloc | apply Kd.R_drewN | apply Kd.R_drew)); exact HO1164.out) hb); have n3_ := Aside0.mk (Kd.R_lower (Kd.R_new' (Kd.R_new' ho0 (Kd.R_lt (by (with_reducible repeat (first | apply Kd.R_alloc | apply Kd.R_drewN | apply Kd.R_drew)); exact HO_4.out))) (Kd.R_lt (by (with_reducible repeat (first | apply Kd.R_alloc | apply Kd.R_drewN | apply Kd.R_drew)); exact HO_6.out))) (below_size (by repeat (first | (with_reducible first | exact HB.out | apply below_alloc | apply pw_below_drewN | apply below_drew1) | exact HB.out)))); have n4_ := Aside0.mk (below_step (by repeat (first | (with_reducible first | exact HB.out | apply below_alloc | apply pw_below_drewN | apply below_drew1) | exact HB.out)) hb); clear HO_4; clear HO_6; clear HO1164; clear HB; have HO_4 := n0_; have HO_6 := n1_; have HO1164 := n2_; have HO1167 := n3_; have HB := n4_; clear n0_ n1_ n2_ n3_ n4_; (try clear hb); (try clear hb2); (try clear hk); (try clear hi); (try clear ho0); obtain ⟨Ao51, co51, eo51⟩ := Kd.R_slice HO1167.out; subst eo51) | ((with_reducible refine gate_callee (f := 60) rfl ?_); refine goesL_ (some 59) rfl rfl Try.func60 (by kernel_rfl) rfl #[.slice Ao51 t1165.length co51, .slice Ao22 t1142.length co22] rfl (by (try simp only [List.map_toArray, List.map_cons, List.map_nil]); first | done | rfl | (simp only [List.length_drop, List.length_take]; rfl)) ?_; (with_reducible refine (laws_eqIntS.calls kj13 _ _ t1165 _ _ t1142 true _ ?side1 ?side2 ?side3 ?side4 A37.out).mono ?_); (case side1 => repeat (first | exact (Kd.R_reads' HO1167.out).2.2 | (with_reducible refine Kd.C_alloc ?_ _) | (with_reducible refine Kd.C_drewN ?_ _) | (with_reducible refine Kd.C_drew ?_))); (case side2 => exact (Kd.R_reads' HO1167.out).2.1); (case side3 => repeat (first | exact (Kd.R_reads' HO_4.out).2.2 | (with_reducible refine Kd.C_alloc ?_ _) | (with_reducible refine Kd.C_drewN ?_ _) | (with_reducible refine Kd.C_drew ?_))); (case side4 => exact (Kd.R_reads' HO_4.out).2.1); rintro e w' ⟨rfl, ⟨nd, rfl⟩⟩; refine ⟨_, rfl, ?_⟩) | ((with_reducible refine gate_callee (f := 63) rfl ?_); refine goesL_ (some 63) rfl rfl Try.func63 (by kernel_rfl) rfl #[.slice Ao21 t1160.length co21, .int .i64 1] rfl (by (try simp only [List.map_toArray, List.map_cons, List.map_nil]); first | done | (rw [show t1160.length = t1148.length from (Kd.R_reads' HO_6.out).1.symm] <;> rfl) | rfl | (simp only [List.length_drop, List.length_take]; rfl)) ?_; (with_reducible refine (laws_heldIntS.calls kj13 _ _ t1160 1 t1169 _ ?side1 ?side2 A39.out).mono ?_); (case side1 => repeat (first | exact (Kd.R_reads' HO_6.out).2.2 | (with_reducible refine Kd.C_alloc ?_ _) | (with_reducible refine Kd.C_drewN ?_ _) | (with_reducible refine Kd.C_drew ?_))); (case side2 => rw [show t1160.length = t1148.length from (Kd.R_reads' HO_6.out).1.symm]; exact (Kd.R_reads' HO_6.out).2.1); rintro e w' ⟨rfl, ⟨nd, rfl⟩⟩; refine ⟨_, rfl, ?_⟩))
                        go_ret
                        exact ⟨by first | rfl | (simp [errW_none, errW_some] <;> rfl) | (simp [*, errW_none, errW_some] <;> rfl), by repeat (first | (with_reducible first | exact HB.out | apply below_alloc | apply pw_below_drewN | apply below_drew1) | exact HB.out)⟩
                      · rw [if_neg c46] at H
                        have c46b0 : (t1169 == t1159) = false := beq_eq_false_iff_ne.mpr c46
                        have c46b1 : (t1169 != t1159) = true := bne_iff_ne.mpr c46
                        obtain rfl := Option.some.inj H
                        exact absurd hT_.out (by simp)
                  · replace c38 := Bool.eq_false_iff.mpr c38
                    subst c38
                    have H1 : (some false) = some r := by rw [if_neg (show ¬ (false = true) by decide)] at H; exact H
                    clear H
                    have H := H1
                    clear H1
                    obtain rfl := Option.some.inj H
                    exact absurd hT_.out (by simp)
                · rw [if_neg c34] at H
                  have c34b0 : (t1161 == t1159) = false := beq_eq_false_iff_ne.mpr c34
                  have c34b1 : (t1161 != t1159) = true := bne_iff_ne.mpr c34
                  obtain rfl := Option.some.inj H
                  exact absurd hT_.out (by simp)
      · replace c12 := Bool.eq_false_iff.mpr c12
        subst c12
        have H1 : (some false) = some r := by rw [if_neg (show ¬ (false = true) by decide)] at H; exact H
        clear H
        have H := H1
        clear H1
        obtain rfl := Option.some.inj H
        exact absurd hT_.out (by simp)
    · replace c9 := Bool.eq_false_iff.mpr c9
      subst c9
      have H1 : (some false) = some r := by rw [if_neg (show ¬ (false = true) by decide)] at H; exact H
      clear H
      have H := H1
      clear H1
      obtain rfl := Option.some.inj H
      exact absurd hT_.out (by simp)
end Go.Proofs.Ytcefiblpnegepaa.Pr
