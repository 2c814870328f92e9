import Derived.WalkKit
/- Blocks of tactics that stand often, under short names; a block is run where its name stands. -/
variable {p : Prop}
theorem zb0 (h : p := by repeat (first | (with_reducible first | exact HK.out | apply KeepBut.set_ | apply keep_drewN | apply keep_drew | apply keep_alloc | refine keep_far ?_ GW1176.out _ | refine keep_far ?_ GW1177.out _) | exact HK.out)) : p := h
theorem zb1 (h : p := by repeat (first | (with_reducible first | exact HB.out | apply wa | apply wn | apply wd | refine below_set ?_ (IsS96.ge HI0.out) | refine ws ‹_› ?_) | exact HB.out)) : p := h
theorem zb2 (h : p := by repeat (first | (with_reducible first | exact HI0.out | apply IsS96.alloc | apply IsS96.drewN | apply IsS96.drew | apply IsS96.set_1 | refine IsS96.far ?_ NB0_1176.out _ | refine IsS96.far ?_ NB0_1177.out _) | exact HI0.out)) : p := h
theorem zb3 (h : p := by (try simp only [List.map_toArray, List.map_cons, List.map_nil]); first | done | rfl | (simp only [List.length_drop, List.length_take]; rfl)) : p := h
theorem zb4 (h : p := by repeat (first | (with_reducible first | exact HB.out | apply wa | apply wn | apply wd | refine ws ‹_› ?_) | exact HB.out)) : p := h
theorem zb5 (h : p := by repeat (first | (with_reducible first | exact HI0.out | apply IsS96.alloc | apply IsS96.drewN | apply IsS96.drew | apply IsS96.set_1 | refine IsS96.far ?_ NB0_349.out _ | refine IsS96.far ?_ NB0_356.out _) | exact HI0.out)) : p := h
theorem zb6 (h : p := by repeat (first | (with_reducible first | exact HK.out | apply KeepBut.set_ | apply keep_drewN | apply keep_drew | apply keep_alloc | refine keep_far ?_ GW349.out _ | refine keep_far ?_ GW356.out _) | exact HK.out)) : p := h
theorem zb7 (h : p := by repeat (first | (with_reducible first | exact HB.out | apply wa | apply wn | apply wd) | exact HB.out)) : p := h
theorem zb8 (h : p := by repeat (first | (with_reducible first | exact HK.out | apply Kept.alloc | apply Kept.drewN | apply Kept.drew | refine Kept.setCell ?_ (.inr GW295.out) _ | refine Kept.setCell ?_ (.inr GW296.out) _ | refine Kept.setCell ?_ (.inr GW297.out) _) | exact HK.out)) : p := h
theorem zb9 (h : p := by repeat (first | (with_reducible first | exact HB.out | apply below_alloc | apply pw_below_drewN | apply below_drew1) | exact HB.out)) : p := h
theorem zb10 (h : p := by first | (with_reducible assumption) | assumption) : p := h
theorem zb11 (h : p := by first | rfl | (simp [errW_none, errW_some] <;> rfl) | (simp [*, errW_none, errW_some] <;> rfl)) : p := h
theorem zb12 (h : p := by (with_reducible repeat (first | apply bn | apply bd | apply ba)); exact BK1177.out) : p := h
theorem zb13 (h : p := by (with_reducible repeat (first | apply bn | apply bd | apply ba)); exact BK1176.out) : p := h
theorem zb14 (h : p := by kernel_rfl) : p := h
theorem zb15 (h : p := by first | rfl | (simp; done) | (simp [*]; done)) : p := h
theorem zb16 (h : p := by repeat (first | (with_reducible first | exact HI0.out | apply IsS96.alloc | apply IsS96.drewN | apply IsS96.drew | apply IsS96.set_1) | exact HI0.out)) : p := h
theorem zb17 (h : p := by repeat (first | (with_reducible first | exact HK.out | apply KeepBut.set_ | apply keep_drewN | apply keep_drew | apply keep_alloc) | exact HK.out)) : p := h
theorem zb18 (h : p := by (with_reducible repeat (first | apply Kd.R_alloc | apply Kd.R_drewN | apply Kd.R_drew)); exact HO0_2.out) : p := h
theorem zb19 (h : p := by (repeat (first | (with_reducible first | apply bn | apply bd | apply ba) | apply bf NB349_356)); exact BK349.out) : p := h
theorem zb20 (h : p := by first | (go_simp; done) | (go_simp; rfl)) : p := h
theorem zb21 (h : p := by first | exact Kd.R_nil _ _ _ _ _ | exact Kd.N_nil _ _ _ _ _ | exact Kd.V_nil _ _ _ _ _ | exact Kd.Q_nil _ _ _ _ _ | exact Kd.S_nil _ _ _ _ _) : p := h
theorem zb22 (h : p := by (with_reducible repeat (first | apply bn | apply bd | apply ba)); exact BK296.out) : p := h
theorem zb23 (h : p := by have := HZ0.out; simp; omega) : p := h
theorem zb24 (h : p := by have h_ := EBox.new (w.alloc (.cells #[.slice A0 l0.length c0, .slice A1 l1.length c1, .slice A2 l2.length c2, .int .i64 a3, .bool a4] 52)) (.slice none 0 0) (.slice none 0 0) (.slice none 0 0) 0 false; simpa using h_) : p := h
theorem zb25 (h : p := by repeat (first | exact Drawn0.refl _ | apply Drawn0.step)) : p := h
theorem zb26 (h : p := by repeat (first | (with_reducible first | exact HI0.out | apply IsS96.alloc | apply IsS96.drewN | apply IsS96.drew | apply IsS96.set_1 | refine IsS96.far ?_ NB0_1176.out _) | exact HI0.out)) : p := h
theorem zb27 (h : p := by repeat (first | (with_reducible first | exact HI0.out | apply IsS96.alloc | apply IsS96.drewN | apply IsS96.drew | apply IsS96.set_1 | refine IsS96.far ?_ NB0_349.out _) | exact HI0.out)) : p := h
theorem zb28 (h : p := by repeat (first | (with_reducible first | exact HK.out | apply KeepBut.set_ | apply keep_drewN | apply keep_drew | apply keep_alloc | refine keep_far ?_ GW1176.out _) | exact HK.out)) : p := h
theorem zb29 (h : p := by repeat (first | (with_reducible first | exact HK.out | apply KeepBut.set_ | apply keep_drewN | apply keep_drew | apply keep_alloc | refine keep_far ?_ GW349.out _) | exact HK.out)) : p := h
theorem zb30 (h : p := by (with_reducible repeat (first | apply bn | apply bd | apply ba)); exact p6 BK1177) : p := h
theorem zb31 (h : p := by (with_reducible repeat (first | apply bn | apply bd | apply ba)); exact BK349.out) : p := h
theorem zb32 (h : p := by (with_reducible repeat (first | apply Kd.S_alloc | apply Kd.S_drewN | apply Kd.S_drew)); exact HO1380.out) : p := h
theorem zb33 (h : p := by (with_reducible repeat (first | apply Kd.R_alloc | apply Kd.R_drewN | apply Kd.R_drew)); exact HO1386.out) : p := h
theorem zb34 (h : p := by (with_reducible repeat (first | apply Kd.V_alloc | apply Kd.V_drewN | apply Kd.V_drew)); exact HO0_1.out) : p := h
theorem zb35 (h : p := by (with_reducible repeat (first | apply Kd.V_alloc | apply Kd.V_drewN | apply Kd.V_drew)); exact HO0_0.out) : p := h
theorem zb36 (h : p := by (with_reducible repeat (first | apply Kd.Q_alloc | apply Kd.Q_drewN | apply Kd.Q_drew)); exact HO_5.out) : p := h
theorem zb37 (h : p := by repeat (first | (with_reducible first | exact HB.out | apply below_alloc | apply pw_below_drewN | apply below_drew1 | refine below_set ?_ GE701.out | refine below_set ?_ GE702.out) | exact HB.out)) : p := h
theorem zb38 (h : p := by repeat (first | (with_reducible exact HR227.out) | (with_reducible refine Kd.C_alloc ?_ _) | (with_reducible refine Kd.C_drewN ?_ _) | (with_reducible refine Kd.C_drew ?_) | exact HR227.out)) : p := h
theorem zb39 (h : p := by repeat (first | (with_reducible first | exact HB.out | apply below_alloc | apply pw_below_drewN | apply below_drew1 | refine below_set ?_ (IsS96.ge HI0.out)) | exact HB.out)) : p := h
theorem zb40 (h : p := by (with_reducible repeat (first | apply bn | apply bd | apply ba)); refine blk_put (cs := #[.int .i64 (wrap64 (1 + t350)), .int .i64 (wrap64 (1 + t352)), .int .i64 0, .int .i64 0, .int .i64 0, .int .i64 0, .int .i64 t354, .int .i64 0]) ?_ 2 _ rfl; (with_reducible repeat (first | apply bn | apply bd | apply ba)); exact BK356.out) : p := h
theorem zb41 (h : p := by exact (Reps.c8 (show Kd.M k41 _ _ _ (⟨a1_0, a1_1, a1_2, a1_3, a1_4, a1_5, t298, a1_7⟩ : S41) [.int .i64 a1_0, .int .i64 a1_1, .int .i64 a1_2, .int .i64 a1_3, .int .i64 a1_4, .int .i64 a1_5, .int .i64 t298, .int .i64 a1_7] from (k41_mkM _ _ _ (⟨a1_0, a1_1, a1_2, a1_3, a1_4, a1_5, t298, a1_7⟩ : S41) )) (Reps.none _ _))) : p := h
theorem zb42 (h : p := by first | rfl | (simp; done) | (simp [hw1]; done) | go_num) : p := h
theorem zb43 (h : p := by simp [results, Try.results127, go_sem, *]) : p := h
theorem zb44 (h : p := by (with_reducible repeat (first | apply bn | apply bd | apply ba)); exact BK297.out) : p := h
theorem zb45 (h : p := by (with_reducible repeat (first | apply bn | apply bd | apply ba)); exact BK295.out) : p := h
theorem zb46 (h : p := by rw [hg]; exact (below_size (by repeat (first | (with_reducible first | exact HBW.out | apply below_alloc | apply pw_below_drewN | apply below_drew1) | exact HBW.out)))) : p := h
theorem zb47 (h : p := by repeat (first | (with_reducible first | exact HB.out | apply below_alloc | apply pw_below_drewN | apply below_drew1 | refine below_set ?_ GE172.out) | exact HB.out)) : p := h
theorem zb48 (h : p := by repeat (first | exact (Kd.C_below HR0_2.out HB.out) | (with_reducible refine Kd.C_alloc ?_ _) | (with_reducible refine Kd.C_drewN ?_ _) | (with_reducible refine Kd.C_drew ?_))) : p := h
theorem zb49 (h : p := by repeat (first | exact (Kd.R_reads' HO0_2.out).2.2 | (with_reducible refine Kd.C_alloc ?_ _) | (with_reducible refine Kd.C_drewN ?_ _) | (with_reducible refine Kd.C_drew ?_))) : p := h
theorem zb50 (h : p := by repeat (first | exact (Kd.C_below HR0.out HB.out) | (with_reducible refine Kd.C_alloc ?_ _) | (with_reducible refine Kd.C_drewN ?_ _) | (with_reducible refine Kd.C_drew ?_))) : p := h
theorem zb51 (h : p := by simp only [putAll, Act.put, List.setIfInBounds_toArray, List.set_cons_zero, List.set_cons_succ]) : p := h
theorem zb52 (h : p := by (with_reducible repeat (first | refine blk_drewN ?_ _ | refine blk_drew ?_ | refine blk_alloc ?_ _)); exact BK701.out) : p := h
theorem zb53 (h : p := by repeat (first | (with_reducible exact HB0.out) | (with_reducible refine below_alloc ?_ _) | (with_reducible refine pw_below_drewN ?_ _) | (with_reducible refine below_drew ?_) | (refine below_set ?_ (by have := HZ0.out; omega)))) : p := h
theorem zb54 (h : p := by repeat (first | exact HR0.out | (with_reducible refine Kd.C_alloc ?_ _) | (with_reducible refine Kd.C_drewN ?_ _) | (with_reducible refine Kd.C_drew ?_))) : p := h
theorem zb55 (h : p := by (with_reducible repeat (first | apply Kd.R_alloc | apply Kd.R_drewN | apply Kd.R_drew)); exact HO307.out) : p := h
theorem zb56 (h : p := by (with_reducible repeat (first | apply Kd.R_alloc | apply Kd.R_drewN | apply Kd.R_drew)); exact HO304.out) : p := h
theorem zb57 (h : p := by (with_reducible repeat (first | apply Kd.Q_alloc | apply Kd.Q_drewN | apply Kd.Q_drew)); exact HO220.out) : p := h
theorem zb58 (h : p := by first | omega | (simp; done) | (simp; omega)) : p := h
theorem zb59 (h : p := by first | rfl | (simp; done) | (simp only [← hji6] <;> (first | rfl | simp)) | (simp [*]; done)) : p := h
theorem zb60 (h : p := by first | omega | exact Nat.le_refl _) : p := h
theorem zb61 (h : p := by have := HK1.out; omega) : p := h
theorem zb62 (h : p := by first | rfl | (simp; done) | (rw [c10b0]; done) | (simp only [← hji4] <;> (first | rfl | simp)) | (simp [*]; done)) : p := h
theorem zb63 (h : p := by have := HLT.out; omega) : p := h
theorem zb64 (h : p := by repeat (first | (with_reducible first | exact HB.out | apply below_alloc | apply pw_below_drewN | apply below_drew1 | refine below_set ?_ GE701.out) | exact HB.out)) : p := h
theorem zb65 (h : p := by repeat (first | (with_reducible first | exact HB.out | apply below_alloc | apply pw_below_drewN | apply below_drew1 | refine below_set ?_ GE432.out) | exact HB.out)) : p := h
theorem zb66 (h : p := by repeat (first | (with_reducible first | exact HB.out | apply below_alloc | apply pw_below_drewN | apply below_drew1 | refine below_set ?_ GE107.out) | exact HB.out)) : p := h
theorem zb67 (h : p := by repeat (first | exact (Kd.C_below HR0_1.out HB.out) | (with_reducible refine Kd.C_alloc ?_ _) | (with_reducible refine Kd.C_drewN ?_ _) | (with_reducible refine Kd.C_drew ?_))) : p := h
theorem zb68 (h : p := by repeat (first | exact (Kd.Q_reads' HO220.out).2.2 | (with_reducible refine Kd.C_alloc ?_ _) | (with_reducible refine Kd.C_drewN ?_ _) | (with_reducible refine Kd.C_drew ?_))) : p := h
theorem zb69 (h : p := by (with_reducible repeat (first | apply bn | apply bd | apply ba)); exact p8 BK356) : p := h
theorem zb70 (h : p := by first | (simp; omega) | omega) : p := h
theorem zb71 (h : p := by repeat (first | (with_reducible first | exact HB.out | apply wa | apply wn | apply wd | refine below_set ?_ (IsS96.ge HI0.out)) | exact HB.out)) : p := h
theorem zb72 (h : p := by simp [results, Try.results134, go_sem, *]) : p := h
theorem zb73 (h : p := by (with_reducible repeat (first | apply Kd.S_alloc | apply Kd.S_drewN | apply Kd.S_drew)); exact Kd.S_mono HO1383.out (fun _ hk => hk.2)) : p := h
theorem zb74 (h : p := by (with_reducible repeat (first | apply Kd.S_alloc | apply Kd.S_drewN | apply Kd.S_drew)); exact Kd.S_mono HO1380.out (fun _ hk => hk.2)) : p := h
theorem zb75 (h : p := by (with_reducible repeat (first | apply Kd.V_alloc | apply Kd.V_drewN | apply Kd.V_drew)); exact Kd.V_mono HO0_1.out (fun _ hk => ⟨hk.1.1, ⟨hk.1.2.1, ⟨hk.2, ⟨hk.1.2.2.1, ⟨hk.1.2.2.2.1, ⟨hk.1.2.2.2.2.1, hk.1.2.2.2.2.2⟩⟩⟩⟩⟩⟩)) : p := h
theorem zb76 (h : p := by (with_reducible repeat (first | apply Kd.V_alloc | apply Kd.V_drewN | apply Kd.V_drew)); exact Kd.V_mono HO0_0.out (fun _ hk => ⟨hk.1.1, ⟨hk.1.2.1, ⟨hk.2, ⟨hk.1.2.2.1, ⟨hk.1.2.2.2.1, ⟨hk.1.2.2.2.2.1, hk.1.2.2.2.2.2⟩⟩⟩⟩⟩⟩)) : p := h
theorem zb77 (h : p := by show (0 : Int) ≤ 0 ∧ (0 : Int) ≤ (L.length : Int); omega) : p := h
theorem zb78 (h : p := by (with_reducible repeat (first | apply bn | apply bd | apply ba)); exact BK1377.out) : p := h
theorem zb79 (h : p := by (with_reducible repeat (first | apply bn | apply bd | apply ba)); exact BK1376.out) : p := h
theorem zb80 (h : p := by (with_reducible repeat (first | refine blk_drewN ?_ _ | refine blk_drew ?_ | refine blk_alloc ?_ _)); exact BK432.out) : p := h
theorem zb81 (h : p := by have h_ := EBox.new (w.alloc (.cells #[.slice A0 l0.length c0, .slice A1 l1.length c1, .slice A2 l2.length c2, .int .i64 a3, .bool false] 52)) (.slice none 0 0) (.slice none 0 0) (.slice none 0 0) 0 false; simpa using h_) : p := h
theorem zb82 (h : p := by repeat (first | (with_reducible first | exact HK.out | apply Kept.alloc | apply Kept.drewN | apply Kept.drew | refine Kept.setCell ?_ (.inr GW295.out) _ | refine Kept.setCell ?_ (.inr GW296.out) _) | exact HK.out)) : p := h
theorem zb83 (h : p := by have := HI.out; omega) : p := h
theorem zb84 (h : p := by simp [results, Try.results107, go_sem, *]) : p := h
theorem zb85 (h : p := by repeat (first | (with_reducible exact HR234.out) | (with_reducible refine Kd.C_alloc ?_ _) | (with_reducible refine Kd.C_drewN ?_ _) | (with_reducible refine Kd.C_drew ?_) | exact HR234.out)) : p := h
theorem zb86 (h : p := by (with_reducible repeat (first | apply Kd.R_alloc | apply Kd.R_drewN | apply Kd.R_drew)); exact Kd.R_mono HO307.out (fun _ hk => ⟨hk.1.1, ⟨hk.1.2.1, ⟨hk.2, hk.1.2.2⟩⟩⟩)) : p := h
theorem zb87 (h : p := by (with_reducible repeat (first | apply Kd.R_alloc | apply Kd.R_drewN | apply Kd.R_drew)); exact Kd.R_mono HO0_2.out (fun _ hk => ⟨hk.1.1, ⟨hk.2, ⟨hk.1.2.1, hk.1.2.2⟩⟩⟩)) : p := h
theorem zb88 (h : p := by repeat (first | (with_reducible first | exact HK.out | apply Kept.alloc | apply Kept.drewN | apply Kept.drew | refine Kept.setCell ?_ (.inr GW295.out) _) | exact HK.out)) : p := h
theorem zb89 (h : p := by simp [results, Try.results155, go_sem, *]) : p := h
theorem zb90 (h : p := by simp [results, Try.results133, go_sem, *]) : p := h
theorem zb91 (h : p := by simp [results, Try.results132, go_sem, *]) : p := h
theorem zb92 (h : p := by repeat (first | exact (Kd.C_below HR273.out HB.out) | (with_reducible refine Kd.C_alloc ?_ _) | (with_reducible refine Kd.C_drewN ?_ _) | (with_reducible refine Kd.C_drew ?_))) : p := h
theorem zb93 (h : p := by repeat (first | exact (Kd.C_below HR0_0.out HB.out) | (with_reducible refine Kd.C_alloc ?_ _) | (with_reducible refine Kd.C_drewN ?_ _) | (with_reducible refine Kd.C_drew ?_))) : p := h
theorem zb94 (h : p := by exact (Reps.c8 (k41_mkM _ _ _ (⟨b1, b2, b3, b4, b5, b6, b7, b8⟩ : S41)) (Reps.none _ _))) : p := h
theorem zb95 (h : p := by rw [HN.out]; rfl) : p := h
theorem zb96 (h : p := by simp [Value.ownBlock]) : p := h
theorem zb97 (h : p := by rw [List.length_drop]; omega) : p := h
theorem zb98 (h : p := by repeat (first | (with_reducible first | exact HK.out | apply Kept.alloc | apply Kept.drewN | apply Kept.drew) | exact HK.out)) : p := h
theorem zb99 (h : p := by have := HZ0.out; first | (simp; done) | (simp; omega) | omega) : p := h
theorem zb100 (h : p := by simp [results, Try.results139, go_sem, *]) : p := h
theorem zb101 (h : p := by (with_reducible repeat (first | refine blk_drewN ?_ _ | refine blk_drew ?_ | refine blk_alloc ?_ _)); exact BK702.out) : p := h
theorem zb102 (h : p := by (with_reducible repeat (first | refine blk_drewN ?_ _ | refine blk_drew ?_ | refine blk_alloc ?_ _)); exact BK172.out) : p := h
theorem zb103 (h : p := by (try simp only [List.map_toArray, List.map_cons, List.map_nil]); first | done | rfl) : p := h
theorem zb104 (h : p := by exact (fun k_ hk => ⟨(.inr (Nat.le_trans (by first | exact HK.out.1 | exact (show Kept w _ (fun k_ => P0_2_ k_) from zb8).1) hk)), Kd.fresh' (Kd.R_lt zb18) k_ hk, Kd.fresh' (Kd.R_lt zb55) k_ hk, Kd.freshB (g := gb296) (o := .cells #[.int .i64 a1_0, .int .i64 a1_1, .int .i64 a1_2, .int .i64 a1_3, .int .i64 a1_4, .int .i64 a1_5, .int .i64 t298, .int .i64 a1_7] 41 (0, 0)) zb22 k_ hk⟩)) : p := h
theorem zb105 (h : p := by (with_reducible repeat (first | apply bn | apply bd | apply ba)); exact BK356.out) : p := h
theorem zb106 (h : p := by rw [hg]; exact (below_size zb7)) : p := h
theorem zb107 (h : p := by rw [hg]; exact (keep_size (w := w) (g := g) (row := none) zb17)) : p := h
theorem zb108 (h : p := by have := HZ0.out; omega) : p := h
theorem zb109 (h : p := by have := HK1.out; first | omega | exact Nat.le_refl _) : p := h
theorem zb110 (h : p := by rw [hg]; exact (below_size zb9)) : p := h
theorem zb111 (h : p := by rw [hg]; exact (keep_size (w := w) (g := g) (row := none) zb28)) : p := h
theorem zb112 (h : p := by simp; omega) : p := h
theorem zb113 (h : p := by repeat (first | exact (Kd.C_below HR0_2.out zb4) | (with_reducible refine Kd.C_alloc ?_ _) | (with_reducible refine Kd.C_drewN ?_ _) | (with_reducible refine Kd.C_drew ?_))) : p := h
theorem zb114 (h : p := by repeat (first | exact (Kd.C_below HR0_1.out zb4) | (with_reducible refine Kd.C_alloc ?_ _) | (with_reducible refine Kd.C_drewN ?_ _) | (with_reducible refine Kd.C_drew ?_))) : p := h
theorem zb115 (h : p := by repeat (first | exact (Kd.C_below HR0_0.out zb4) | (with_reducible refine Kd.C_alloc ?_ _) | (with_reducible refine Kd.C_drewN ?_ _) | (with_reducible refine Kd.C_drew ?_))) : p := h
theorem zb116 (h : p := by repeat (first | exact zb38 | (with_reducible refine Kd.C_alloc ?_ _) | (with_reducible refine Kd.C_drewN ?_ _) | (with_reducible refine Kd.C_drew ?_))) : p := h
theorem zb117 (h : p := by first | exact HK.out.1 | exact (show Kept w _ (fun k_ => P0_2_ k_) from zb8).1) : p := h
