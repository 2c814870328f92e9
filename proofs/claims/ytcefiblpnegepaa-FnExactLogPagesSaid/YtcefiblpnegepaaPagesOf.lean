/- The contract of pagesOf, where all records hold. -/
import Derived.Test.YtcefiblpnegepaaPgTail
import Derived.Test.YtcefiblpnegepaaPrLC2
namespace Go.Proofs.Ytcefiblpnegepaa.Pr
open Go.RowKit Go.Proofs.YtcefiblpnegepaaW.PrintWords Go.Proofs.YtcefiblpnegepaaW.PrintLast Go.Proofs.YtcefiblpnegepaaW.PrintMore Go.Proofs.Ytcefiblpnegepaa.T Go.Sort
attribute [local go_sem] max2_int min2_int max_two min_two max_three min_three max_four min_four
set_option linter.unusedVariables false
set_option linter.unusedSimpArgs false
/-! ### impl_pagesOf: function 109 -/
def impl_pagesOf.l0 : Nat → List (S41) → List Int → List Int → Int → Int → Option (List Int)
  | 0, _, _, _, _, _ => none
  | k + 1, x0, x7, x13, x14, x15 => if x15 < x14 then (if 0 ≤ x15 then (if x15 < (x13.length : Int) then (if 0 ≤ (wrap64 ((rd x13 x15) - 1)) then (if (wrap64 ((rd x13 x15) - 1)) < (x0.length : Int) then (if x7.length < 17592186044416 then (impl_pagesOf.l0 k x0 (x7 ++ [(rd_T41 x0 (wrap64 ((rd x13 x15) - 1))).f2]) x13 x14 (wrap64 (x15 + 1))) else (none)) else (none)) else (none)) else (none)) else (none)) else (some x7)
def impl_pagesOf.f (k : Nat) (l0 : List (S41)) (a1 : Int) (a2 : Int) : Option (List Int) := (impl_chain.f k l0 a1).bind fun t332 => (impl_pagesOf.l0 k l0 ([] : List Int) t332 (t332.length : Int) 0)
theorem impl_pagesOf.mono_l : ∀ k, (∀ y0 y1 y2 y3 y4, LeO (impl_pagesOf.l0 k y0 y1 y2 y3 y4) (impl_pagesOf.l0 (k + 1) y0 y1 y2 y3 y4))
  | 0 => fun _ _ _ _ _ r h => by simp [impl_pagesOf.l0] at h
  | k + 1 => by
    have ih0 := impl_pagesOf.mono_l k
    · intro y0 y1 y2 y3 y4
      unfold impl_pagesOf.l0
      repeat' first
      | (with_reducible exact ih0 _ _ _ _ _)
      | (with_reducible exact impl_chain.mono _ _ _)
      | (with_reducible exact LeO.refl _)
      | (with_reducible exact LeO.none _)
      | (with_reducible refine LeO.ite ?_ ?_)
      | (with_reducible refine LeO.bind ?_ (fun _ => ?_))
      | exact ih0 _ _ _ _ _
      | exact impl_chain.mono _ _ _
      | exact LeO.none _
      | refine LeO.ite ?_ ?_
      | refine LeO.bind ?_ (fun _ => ?_)
theorem impl_pagesOf.mono : ∀ a0 a1 a2 k, LeO (impl_pagesOf.f k a0 a1 a2) (impl_pagesOf.f (k + 1) a0 a1 a2) := by
  intro a0 a1 a2 k
  have ih0 := impl_pagesOf.mono_l k
  unfold impl_pagesOf.f
  repeat' first
      | (with_reducible exact ih0 _ _ _ _ _)
      | (with_reducible exact impl_chain.mono _ _ _)
      | (with_reducible exact LeO.refl _)
      | (with_reducible exact LeO.none _)
      | (with_reducible refine LeO.ite ?_ ?_)
      | (with_reducible refine LeO.bind ?_ (fun _ => ?_))
      | exact ih0 _ _ _ _ _
      | exact impl_chain.mono _ _ _
      | exact LeO.none _
      | refine LeO.ite ?_ ?_
      | refine LeO.bind ?_ (fun _ => ?_)
set_option maxHeartbeats 8000000 in
set_option maxRecDepth 100000 in
theorem pagesOf_calls (k : Nat) (A0 : Option Addr) (c0 : Nat) (l0 : List (S41)) (a1 : Int) (a2 : Int) (r : List Int) (w : World) (hr0 : Kd.C k41 w A0 l0.length l0) (hc0 : l0.length ≤ c0) (hlen : r.length < 4611686018427387904) (h : impl_pagesOf.f k l0 a1 a2 = some r) :
    Calls Try.prog 109 #[.slice A0 l0.length c0, .int .i64 a1, .func (Fn.func 110) #[] #[]] w fun e w' => ∃ v0_ : Value, e = .returned (v0_) ∧ Z (Kd.int .i64) 3 w' w.heap.size (fun _ => True) v0_ (sortC r) ∧ Below w.heap.size w w' := by
  have hu41 := Try.underlying41
  have HR0 := az hr0
  have HC0 := az hc0
  clear hr0 hc0
  have HB := az (Below.refl w.heap.size w)
  have H : ((impl_chain.f k l0 a1).bind fun t332 => (impl_pagesOf.l0 k l0 ([] : List Int) t332 (t332.length : Int) 0)) = some r := h
  clear h
  replace H := Option.bind_eq_some_iff.mp H
  obtain ⟨t332, A40, H⟩ := H
  replace H : (impl_pagesOf.l0 k l0 ([] : List Int) t332 (t332.length : Int) 0) = some r := H
  have A4 := az A40
  clear A40
  have H' := az H
  clear H
  go_enter Try.func109, Try.ntmps109
  go_wp2_with (first | ((with_reducible refine gate_callee (f := 105) rfl ?_); refine goesL_ (some 13) rfl rfl Try.func105 (by kernel_rfl) rfl #[.slice A0 l0.length c0, .int .i64 a1] rfl (by (try simp only [List.map_toArray, List.map_cons, List.map_nil]); first | done | rfl | (simp only [List.length_drop, List.length_take]; rfl)) ?_; (with_reducible refine (impl_chain.calls k _ _ l0 a1 t332 _ ?side1 ?side2 A4.out).mono ?_); (case side1 => repeat (first | exact HR0.out | (with_reducible refine Kd.C_alloc ?_ _) | (with_reducible refine Kd.C_drewN ?_ _) | (with_reducible refine Kd.C_drew ?_))); (case side2 => exact HC0.out); rintro e w5 ⟨v333, rfl, ho0, hb⟩; refine ⟨_, rfl, ?_⟩; have HO334 := az (Kd.R_lower ho0 (below_size (by repeat (first | (with_reducible first | exact HB.out | apply wa | apply wn | apply wd) | exact HB.out)))); replace HB := az (below_step (by repeat (first | (with_reducible first | exact HB.out | apply wa | apply wn | apply wd) | exact HB.out)) hb); (try clear hb); (try clear hb2); (try clear hk); (try clear hi); (try clear ho0); obtain ⟨Ao6, co6, eo6⟩ := Kd.R_slice HO334.out; subst eo6))
  go_loopg [7, 15] k (fun kq v7 v15 w' => ∃ (x7_1 : List Int) (x15_1 : Int), v15 = .int .i64 x15_1 ∧ Aside0 (impl_pagesOf.l0 kq l0 x7_1 t332 (t332.length : Int) x15_1 = some r) ∧ Aside0 (kq ≤ k) ∧ Aside0 (Kd.R (Kd.int .i64) 3 w' w.heap.size (fun k_ => some k_ ≠ ((.slice Ao6 t332.length co6) : Value).ownBlock) v7 x7_1) ∧ Aside0 (Kd.R (Kd.int .i64) 3 w' w.heap.size (fun k_ => some k_ ≠ (v7 : Value).ownBlock) (.slice Ao6 t332.length co6) t332) ∧ Aside0 (Below w.heap.size w w'))
  case atStart => exact ⟨(([] : List Int)), (0), (by first | rfl | (simp; done) | (simp [*]; done)), H', ⟨Nat.le_refl _⟩, ⟨by first | exact Kd.R_nil _ _ _ _ _ | exact Kd.N_nil _ _ _ _ _ | exact Kd.V_nil _ _ _ _ _ | exact Kd.Q_nil _ _ _ _ _ | exact Kd.S_nil _ _ _ _ _⟩, ⟨by (with_reducible repeat (first | apply Kd.R_alloc | apply Kd.R_drewN | apply Kd.R_drew)); exact Kd.R_mono HO334.out (fun _ hk => (by simp [Value.ownBlock]))⟩, ⟨by repeat (first | (with_reducible first | exact HB.out | apply wa | apply wn | apply wd) | exact HB.out)⟩⟩
  case round =>
    clear H'
    try clear c1
    try clear p2
    obtain ⟨x7_1, x15_1, rfl, HA, HK1, HO_7, HO_13, HB⟩ := hrel
    cases gk with
    | zero => exact absurd HA.out (by simp [impl_pagesOf.l0])
    | succ k1 =>
      have H := HA.out
      clear HA
      simp only [impl_pagesOf.l0] at H
      by_cases c7 : x15_1 < (t332.length : Int)
      · rw [if_pos c7] at H
        have c7b0 : decide (x15_1 < (t332.length : Int)) = true := decide_eq_true c7
        clear c7
        by_cases c8 : 0 ≤ x15_1
        · rw [if_pos c8] at H
          have c8b0 : decide (0 ≤ x15_1) = true := decide_eq_true c8
          clear c8
          by_cases c9 : x15_1 < (t332.length : Int)
          · rw [if_pos c9] at H
            have c9b0 : decide (x15_1 < (t332.length : Int)) = true := decide_eq_true c9
            clear c9
            obtain ⟨ji10, hji10⟩ : ∃ j_ : Int, (wrap64 ((rd t332 x15_1) - 1)) = j_ := ⟨_, rfl⟩
            replace H : (if 0 ≤ (ji10) then (if (ji10) < (l0.length : Int) then (if x7_1.length < 17592186044416 then (impl_pagesOf.l0 k1 l0 (x7_1 ++ [(rd_T41 l0 (ji10)).f2]) t332 (t332.length : Int) (wrap64 (x15_1 + 1))) else (none)) else (none)) else (none)) = some r := by first | (rw [hji10] at H; exact H) | (simp only [hji10] at H ⊢; exact H)
            have hji10w : (IntKind.i64.wrap ((rd t332 x15_1) - 1)) = ji10 := (i64_w _).trans hji10
            by_cases c11 : 0 ≤ (ji10)
            · rw [if_pos c11] at H
              have c11b0 : decide (0 ≤ (ji10)) = true := decide_eq_true c11
              clear c11
              by_cases c12 : (ji10) < (l0.length : Int)
              · rw [if_pos c12] at H
                have c12b0 : decide ((ji10) < (l0.length : Int)) = true := decide_eq_true c12
                clear c12
                by_cases c13 : x7_1.length < 17592186044416
                · rw [if_pos c13] at H
                  have LMc13 := az c13
                  clear c13
                  obtain ⟨y338, hy338⟩ : ∃ y_ : List Int, y_ = (x7_1 ++ [(rd_T41 l0 (ji10)).f2]) := ⟨_, rfl⟩
                  replace H : (impl_pagesOf.l0 k1 l0 y338 t332 (t332.length : Int) (wrap64 (x15_1 + 1))) = some r := by first | (rw [hy338]; with_reducible exact H) | (have H2_ := (Option.bind_some _ _).symm.trans H; rw [hy338]; with_reducible exact H2_) | (have H2_ := (Option.bind_some _ _).symm.trans H; with_reducible exact H2_) | with_reducible exact H | (rw [hy338]; exact H) | exact H
                  have Ny338 := az hy338
                  clear hy338
                  have H' := az H
                  clear H
                  have p335 : 0 ≤ (x15_1 : Int) := of_decide_eq_true (by first | (with_reducible assumption) | assumption)
                  have q335 : x15_1 < (t332.length : Int) := of_decide_eq_true (by first | (with_reducible assumption) | assumption)
                  obtain ⟨ad335, e335, hx335_0⟩ := Kd.at_int (Kd.R_reads' HO_13.out).2.2 x15_1 p335 q335
                  cases e335
                  replace p335 := eq_true p335
                  replace q335 := eq_true q335
                  have p336 : 0 ≤ ((ji10) : Int) := of_decide_eq_true (by first | (with_reducible assumption) | assumption)
                  have q336 : (ji10) < (l0.length : Int) := of_decide_eq_true (by first | (with_reducible assumption) | assumption)
                  obtain ⟨ad336, e336, hx336_0, hx336_1, hx336_2, hx336_3, hx336_4, hx336_5, hx336_6, hx336_7⟩ := at_T41 HR0.out (ji10) p336 q336
                  cases e336
                  replace hx336_0 := (HB.out.cell (World.block_lt_of_cell? w _ hx336_0)).trans hx336_0
                  replace hx336_1 := (HB.out.cell (World.block_lt_of_cell? w _ hx336_1)).trans hx336_1
                  replace hx336_2 := (HB.out.cell (World.block_lt_of_cell? w _ hx336_2)).trans hx336_2
                  replace hx336_3 := (HB.out.cell (World.block_lt_of_cell? w _ hx336_3)).trans hx336_3
                  replace hx336_4 := (HB.out.cell (World.block_lt_of_cell? w _ hx336_4)).trans hx336_4
                  replace hx336_5 := (HB.out.cell (World.block_lt_of_cell? w _ hx336_5)).trans hx336_5
                  replace hx336_6 := (HB.out.cell (World.block_lt_of_cell? w _ hx336_6)).trans hx336_6
                  replace hx336_7 := (HB.out.cell (World.block_lt_of_cell? w _ hx336_7)).trans hx336_7
                  replace p336 := eq_true p336
                  replace q336 := eq_true q336
                  go_wp2_with (first | ((with_reducible refine gate_dst (N := 10) rfl ?_); refine box_event ?hg (N := 10) ?hd (cs := #[.int .i64 0, .int .i64 0, .int .i64 0, .int .i64 0, .int .i64 0, .int .i64 0, .int .i64 0, .int .i64 0]) (t := 41) ?hr ?_; (case hd => rfl); (case hg => rfl); (case hr => first | (go_simp; done) | (go_simp; rfl)); intro gb337 hg w14 hbox hb; replace HO_7 := az (Kd.R_below (by (with_reducible repeat (first | apply Kd.R_alloc | apply Kd.R_drewN | apply Kd.R_drew)); exact HO_7.out) hb); replace HO_13 := az (Kd.R_below (by (with_reducible repeat (first | apply Kd.R_alloc | apply Kd.R_drewN | apply Kd.R_drew)); exact HO_13.out) hb); have BK337 := az (hbox); have GW337 := az ((by rw [hg]; exact (below_size (by repeat (first | (with_reducible first | exact HB.out | apply wa | apply wn | apply wd) | exact HB.out))) : w.heap.size ≤ gb337)); have GE337 := GW337; replace HB := az (below_step (by repeat (first | (with_reducible first | exact HB.out | apply wa | apply wn | apply wd) | exact HB.out)) hb); clear hb hbox hg; obtain ⟨hcz15_0, hcz15_1, hcz15_2, hcz15_3, hcz15_4, hcz15_5, hcz15_6, hcz15_7⟩ := cz8 BK337; obtain ⟨hfz15_0, hfz15_1, hfz15_2, hfz15_3, hfz15_4, hfz15_5, hfz15_6⟩ := fz7 BK337; have hfz15_7 := blk_frozen BK337.out 7) | (go_at_call 110; refine (all_calls _ _ _ _ _ _ _ _ _).mono ?_; rintro e w15 ⟨rfl, hb⟩; replace HO_7 := az (Kd.R_below (by (with_reducible repeat (first | apply Kd.R_alloc | apply Kd.R_drewN | apply Kd.R_drew)); exact (fR8 HO_7.out BK337.out (by decide))) hb); replace HO_13 := az (Kd.R_below (by (with_reducible repeat (first | apply Kd.R_alloc | apply Kd.R_drewN | apply Kd.R_drew)); exact (fR8 HO_13.out BK337.out (by decide))) hb); replace BK337 := az (blk_below (by (with_reducible repeat (first | apply bn | apply bd | apply ba)); exact p8 BK337) hb); replace HB := az (below_step (by repeat (first | (with_reducible first | exact HB.out | apply wa | apply wn | apply wd | refine ws ‹_› ?_) | exact HB.out)) hb); clear hb; obtain ⟨hcy_0, hcy_1, hcy_2, hcy_3, hcy_4, hcy_5, hcy_6, hcy_7⟩ := cz8 BK337; obtain ⟨hfy_0, hfy_1, hfy_2, hfy_3, hfy_4, hfy_5, hfy_6, hfy_7⟩ := fz8 BK337) | ((with_reducible refine gate_builtin (b := .append) (xs := #[.tmp 27, .tmp 30]) rfl ?_); at_builtin; refine Kd.R_append (Kd.int .i64) (w0 := w) w.heap.size rfl (.tmp 27) (.tmp 30) 23 3 (.int .i64 0) 8 rfl Try.underlying23 info3 rfl (by decide) (by omega) u7 x7_1 ((rd_T41 l0 (ji10)).f2) [.int .i64 ((rd_T41 l0 (ji10)).f2)] (fun k_ => some k_ ≠ (.slice (some ad335) t332.length co6 : Value).ownBlock) (fun _ => False) rfl (by first | (go_simp; done) | (go_simp; rfl)) ?aP (fun _ hk => hk.elim) ?aF ?aO ?aB ?aS ?aL ?_; (case aP => exact rfl); (case aB => exact (by repeat (first | (with_reducible first | exact HB.out | apply wa | apply wn | apply wd | refine ws ‹_› ?_) | exact HB.out))); (case aF => exact (fun k_ hk => Kd.fresh' (Kd.R_lt (by (with_reducible repeat (first | apply Kd.R_alloc | apply Kd.R_drewN | apply Kd.R_drew)); exact HO_13.out)) k_ hk)); (case aO => exact (by (with_reducible repeat (first | apply Kd.R_alloc | apply Kd.R_drewN | apply Kd.R_drew)); exact HO_7.out)); (case aS => exact (below_size (by repeat (first | (with_reducible first | exact HB.out | apply wa | apply wn | apply wd | refine ws ‹_› ?_) | exact HB.out)))); (case aL => have := LMc13.out; omega); intro v339 w16 ho hb hg hat; rw [← Ny338.out] at ho; replace HO_13 := az (R_after (ok := (fun _ => True)) (by (with_reducible repeat (first | apply Kd.R_alloc | apply Kd.R_drewN | apply Kd.R_drew)); exact Kd.R_mono HO_13.out (fun _ hk => ⟨trivial, hk⟩)) hg hat); replace BK337 := az (blk_grown (g := gb337) (o := .cells #[.int .i64 ((rd_T41 l0 (ji10)).f0), .int .i64 ((rd_T41 l0 (ji10)).f1), .int .i64 ((rd_T41 l0 (ji10)).f2), .int .i64 ((rd_T41 l0 (ji10)).f3), .int .i64 ((rd_T41 l0 (ji10)).f4), .int .i64 ((rd_T41 l0 (ji10)).f5), .int .i64 ((rd_T41 l0 (ji10)).f6), .int .i64 ((rd_T41 l0 (ji10)).f7)] 41 (0, 0)) (by (with_reducible repeat (first | apply bn | apply bd | apply ba)); exact BK337.out) hg (Kd.R_ne HO_7.out BK337.out (by decide))); replace HB := az (hb); have HO340 := az (ho); clear HO_7; clear ho hb hg hat))
                  go_roundg k1
                  case measure => have := HK1.out; omega
                  case rel => exact ⟨(y338), (wrap64 (x15_1 + 1)), (by first | rfl | (simp; done) | (simp [*]; done)), H', ⟨by have := HK1.out; omega⟩, ⟨by (with_reducible repeat (first | apply Kd.R_alloc | apply Kd.R_drewN | apply Kd.R_drew)); exact HO340.out⟩, ⟨by (with_reducible repeat (first | apply Kd.R_alloc | apply Kd.R_drewN | apply Kd.R_drew)); exact Kd.R_mono HO_13.out (fun _ hk => hk.2)⟩, ⟨by repeat (first | (with_reducible first | exact HB.out | apply wa | apply wn | apply wd | refine ws ‹_› ?_) | exact HB.out)⟩⟩
                · rw [if_neg c13] at H
                  exact absurd H (by simp)
              · rw [if_neg c12] at H
                exact absurd H (by simp)
            · rw [if_neg c11] at H
              exact absurd H (by simp)
          · rw [if_neg c9] at H
            exact absurd H (by simp)
        · rw [if_neg c8] at H
          exact absurd H (by simp)
      · rw [if_neg c7] at H
        have c7b0 : decide (x15_1 < (t332.length : Int)) = false := decide_eq_false c7
        clear c7
        obtain rfl := Option.some.inj H
        obtain ⟨A7, c7, eo7⟩ := Kd.R_slice HO_7.out
        subst eo7
        have HL := az hlen
        clear hlen
        have HP := az (sortC_len x7_1)
        go_wp2_with fail
        refine (sortI_calls w _ (fun _ => True) _ x7_1 HB.out (Kd.R_mono HO_7.out (fun _ _ => trivial)) HL.out).mono ?_
        rintro e w21 ⟨rfl, hr1, hb1⟩
        have HR1 := az hr1
        have HB1 := az hb1
        clear hr1 hb1
        have hl2 := az (show (x7_1.mergeSort leI).length ≤ 9223372036854775807 by have := HL.out; simp; omega)
        have hl3 := az (show (x7_1.mergeSort leI).length = x7_1.length by simp)
        rw [← hl3.out]
        go_wp2_with fail
        refine (compactI_calls w _ (fun _ => True) _ _ HB1.out HR1.out hl2.out).mono ?_
        rintro e w22 ⟨A8, c8, rfl, hc8, hr2, hb2⟩
        have HR2 := az hr2
        have HB2 := az hb2
        have HC8 := az hc8
        clear hr2 hb2 hc8
        go_wp2_with fail
        refine (clip_calls A8 _ c8 _ HC8.out (by have := HL.out; have := HP.out; unfold sortC at this; exact Nat.le_trans this (by omega))).mono ?_
        rintro e w23 ⟨rfl, rfl⟩
        go_wp2_with fail
        go_ret
        exact ⟨_, rfl, ⟨fun _ _ => trivial, A8, _, c8, rfl, Nat.le_refl _, HR2.out⟩, HB2.out⟩
end Go.Proofs.Ytcefiblpnegepaa.Pr
