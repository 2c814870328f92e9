import Derived.WalkKit
/- Blocks of tactics that stand often, under short names; a block is run where its name stands. -/
variable {p : Prop}
theorem zb0 (h : p := by repeat (first | (with_reducible first | exact HB.out | apply wa | apply wn | apply wd) | exact HB.out)) : p := h
theorem zb1 (h : p := by repeat (first | (with_reducible first | exact HB.out | apply wa | apply wn | apply wd | refine ws ‹_› ?_) | exact HB.out)) : p := h
theorem zb2 (h : p := by (try simp only [List.map_toArray, List.map_cons, List.map_nil]); first | done | rfl | (simp only [List.length_drop, List.length_take]; rfl)) : p := h
theorem zb3 (h : p := by first | (with_reducible assumption) | assumption) : p := h
theorem zb4 (h : p := by first | rfl | (simp [Dt, Du] <;> rfl) | (simp [*, Dt, Du] <;> rfl)) : p := h
theorem zb5 (h : p := by first | rfl | (simp; done) | (simp [*]; done)) : p := h
theorem zb6 (h : p := by kernel_rfl) : p := h
theorem zb7 (h : p := by first | (go_simp; done) | (go_simp; rfl)) : p := h
theorem zb8 (h : p := by repeat (first | exact (Kd.Xg U6.out HB.out) | (with_reducible refine Kd.Jo ?_ _) | (with_reducible refine Kd.Jp ?_ _) | (with_reducible refine Kd.JJ ?_))) : p := h
theorem zb9 (h : p := by repeat (first | exact ZE.refl _ | apply ZE.step)) : p := h
theorem zb10 (h : p := by first | exact Kd.P9 (Kd.K7 HO_6.out (fun _ hk => hk.2)) | (rw [add_block]; exact Kd.P9 (Kd.K7 HO_6.out (fun _ hk => hk.2))) | (show (Addr.add _ _).block ≠ _; rw [add_block]; exact Kd.P9 (Kd.K7 HO_6.out (fun _ hk => hk.2))) | (dsimp only; exact Kd.P9 (Kd.K7 HO_6.out (fun _ hk => hk.2)))) : p := h
theorem zb11 (h : p := by repeat (first | (with_reducible first | exact HB.out | apply Xj | apply XN | apply Jh | refine Xq ?_ (Nat.le_refl _)) | exact HB.out)) : p := h
theorem zb12 (h : p := by (with_reducible repeat (first | apply Kd.J7 | apply Kd.JK | apply Kd.JO)); exact (Kd.J3 (Kd.J8 (p := ⟨ZT, 7, none⟩) (Kd.J8 (p := ⟨ZT, 6, none⟩) (Kd.J8 (p := ⟨ZT, 5, none⟩) (Kd.J8 (p := ⟨ZT, 4, none⟩) (Kd.J8 (p := ⟨ZT, 3, none⟩) (Kd.J8 (p := ⟨ZT, 2, none⟩) (Kd.J8 (p := ⟨ZT, 1, none⟩) (Kd.J8 (p := ⟨ZT, 0, none⟩) (Kd.Xrd HO_6.out Y9.out (by decide)) (fun _ hk => hk.2) (.int .i64 ((Xa l1 Xf).f0))) (fun _ hk => hk.2) (.int .i64 ((Xa l1 Xf).f1))) (fun _ hk => hk.2) (.int .i64 ((Xa l1 Xf).f2))) (fun _ hk => hk.2) (.int .i64 ((Xa l1 Xf).f3))) (fun _ hk => hk.2) (.int .i64 ((Xa l1 Xf).f4))) (fun _ hk => hk.2) (.int .i64 ((Xa l1 Xf).f5))) (fun _ hk => hk.2) (.int .i64 ((Xa l1 Xf).f6))) (fun _ hk => hk.2) (.int .i64 ((Xa l1 Xf).f7))) (fun _ h_ => h_.1))) : p := h
theorem zb13 (h : p := by repeat (first | (with_reducible first | exact HB.out | apply Xj | apply XN | apply Jh | refine Xq ?_ XfW.out | refine Xq ?_ Xl7.out | refine Xq ?_ XrS.out | refine Xq ?_ XuY.out) | exact HB.out)) : p := h
theorem zb14 (h : p := by repeat (first | exact (Kd.Xg OG.out HB.out) | (with_reducible refine Kd.Jo ?_ _) | (with_reducible refine Kd.Jp ?_ _) | (with_reducible refine Kd.JJ ?_))) : p := h
theorem zb15 (h : p := by repeat (first | exact (Kd.Xg HR0.out HB.out) | (with_reducible refine Kd.Jo ?_ _) | (with_reducible refine Kd.Jp ?_ _) | (with_reducible refine Kd.JJ ?_))) : p := h
theorem zb16 (h : p := by repeat (first | exact HR0.out | (with_reducible refine Kd.Jo ?_ _) | (with_reducible refine Kd.Jp ?_ _) | (with_reducible refine Kd.JJ ?_))) : p := h
theorem zb17 (h : p := by (with_reducible repeat (first | refine YE ?_ _ | refine XB ?_ | refine Ye ?_ _)); exact JU.out) : p := h
theorem zb18 (h : p := by have := HZ0.out; simp; omega) : p := h
theorem zb19 (h : p := by repeat (first | exact (Kd.Xg XfX.out HB.out) | (with_reducible refine Kd.Jo ?_ _) | (with_reducible refine Kd.Jp ?_ _) | (with_reducible refine Kd.JJ ?_))) : p := h
theorem zb20 (h : p := by repeat (first | exact (Kd.Xg Pf.out HB.out) | (with_reducible refine Kd.Jo ?_ _) | (with_reducible refine Kd.Jp ?_ _) | (with_reducible refine Kd.JJ ?_))) : p := h
theorem zb21 (h : p := by (with_reducible repeat (first | apply Kd.J7 | apply Kd.JK | apply Kd.JO)); exact HO_6.out) : p := h
theorem zb22 (h : p := by (with_reducible repeat (first | apply Kd.Yp | apply Kd.Y0 | apply Kd.YC)); exact HO_3.out) : p := h
theorem zb23 (h : p := by repeat (first | (with_reducible exact Mr.out) | (with_reducible refine Kd.Jo ?_ _) | (with_reducible refine Kd.Jp ?_ _) | (with_reducible refine Kd.JJ ?_) | exact Mr.out)) : p := h
theorem zb24 (h : p := by simp only [M9, Act.put, List.setIfInBounds_toArray, List.set_cons_zero, List.set_cons_succ]) : p := h
theorem zb25 (h : p := by (with_reducible repeat (first | refine YE ?_ _ | refine XB ?_ | refine Ye ?_ _)); exact Jr.out) : p := h
theorem zb26 (h : p := by repeat (first | (with_reducible first | exact HB.out | apply Xj | apply XN | apply Jh) | exact HB.out)) : p := h
theorem zb27 (h : p := by (with_reducible repeat (first | apply Kd.Yp | apply Kd.Y0 | apply Kd.YC)); exact HO_7.out) : p := h
theorem zb28 (h : p := by repeat (first | (with_reducible first | exact HB.out | apply Xj | apply XN | apply Jh | refine Xq ?_ XfW.out | refine Xq ?_ Xl7.out | refine Xq ?_ XrS.out) | exact HB.out)) : p := h
theorem zb29 (h : p := by repeat (first | (with_reducible exact HB0.out) | (with_reducible refine Xj ?_ _) | (with_reducible refine XN ?_ _) | (with_reducible refine Xx ?_) | (refine Xq ?_ (by have := HZ0.out; omega)))) : p := h
theorem zb30 (h : p := by repeat (first | exact (Kd.Xg XuZ.out HB.out) | (with_reducible refine Kd.Jo ?_ _) | (with_reducible refine Kd.Jp ?_ _) | (with_reducible refine Kd.JJ ?_))) : p := h
theorem zb31 (h : p := by first | rfl | (simp; done) | (rw [Vh]; done) | (simp only [← hji4] <;> (first | rfl | simp)) | (simp [*]; done)) : p := h
theorem zb32 (h : p := by (with_reducible repeat (first | apply Kd.Yp | apply Kd.Y0 | apply Kd.YC)); exact HO_13.out) : p := h
theorem zb33 (h : p := by have := HK1.out; omega) : p := h
theorem zb34 (h : p := by (with_reducible repeat (first | refine YE ?_ _ | refine XB ?_ | refine Ye ?_ _)); exact BK.out) : p := h
theorem zb35 (h : p := by repeat (first | exact (Kd.Xg Xva.out HB.out) | (with_reducible refine Kd.Jo ?_ _) | (with_reducible refine Kd.Jp ?_ _) | (with_reducible refine Kd.JJ ?_))) : p := h
theorem zb36 (h : p := by first | omega | (simp; done) | (simp; omega)) : p := h
theorem zb37 (h : p := by (with_reducible repeat (first | apply Kd.J7 | apply Kd.JK | apply Kd.JO)); exact HO_3.out) : p := h
theorem zb38 (h : p := by first | rfl | (simp; done) | (simp [hw1]; done) | go_num) : p := h
theorem zb39 (h : p := by first | exact (hB1.alloc hB1.size _).setCell (p := ⟨w.heap.size + 1, 0, none⟩) (by simp) _ | exact (hB1.setCell (p := ⟨w.heap.size + 1, 0, none⟩) (by simp) _).alloc (by simp; exact hB1.size) _) : p := h
theorem zb40 (h : p := by (with_reducible repeat (first | apply Kd.Yp | apply Kd.Y0 | apply Kd.YC)); exact HO.out) : p := h
theorem zb41 (h : p := by first | exact hgm4 | exact hA4) : p := h
theorem zb42 (h : p := by repeat (first | (with_reducible exact D6.out) | (with_reducible refine Kd.Jo ?_ _) | (with_reducible refine Kd.Jp ?_ _) | (with_reducible refine Kd.JJ ?_) | exact D6.out)) : p := h
theorem zb43 (h : p := by (with_reducible repeat (first | refine YE ?_ _ | refine XB ?_ | refine Ye ?_ _)); exact Vj.out) : p := h
theorem zb44 (h : p := by first | exact Kd.PG _ _ _ _ _ | exact Kd.Xsp _ _ _ _ _ | exact Kd.Xsq _ _ _ _ _ | exact Kd.Xsr _ _ _ _ _ | exact Kd.Xmy _ _ _ _ _) : p := h
theorem zb45 (h : p := by have := hx.out; omega) : p := h
theorem zb46 (h : p := by (with_reducible repeat (first | apply Kd.Yp | apply Kd.Y0 | apply Kd.YC)); exact HL407_2.out) : p := h
theorem zb47 (h : p := by (with_reducible repeat (first | apply Kd.Yp | apply Kd.Y0 | apply Kd.YC)); exact HL406_2.out) : p := h
theorem zb48 (h : p := by first | exact ((KeepsOthers.alloc _ _).trans (KeepsOthers.setCell _ _ _)).from _ | exact ((KeepsOthers.setCell _ _ _).trans (KeepsOthers.alloc _ _)).from _) : p := h
theorem zb49 (h : p := by (with_reducible repeat (first | apply Kd.Yp | apply Kd.Y0 | apply Kd.YC)); exact LU.out) : p := h
theorem zb50 (h : p := by have := HK1.out; first | omega | exact Nat.le_refl _) : p := h
theorem zb51 (h : p := by (with_reducible repeat (first | apply Kd.Yp | apply Kd.Y0 | apply Kd.YC)); exact (fR8 HO_13.out J6.out (by decide))) : p := h
theorem zb52 (h : p := by repeat (first | (with_reducible first | exact HB.out | apply Xj | apply XN | apply Jh | refine Xq ?_ XfW.out | refine Xq ?_ Xl7.out) | exact HB.out)) : p := h
theorem zb53 (h : p := by (with_reducible repeat (first | apply Kd.Yp | apply Kd.Y0 | apply Kd.YC)); exact (fR8 HO_7.out J6.out (by decide))) : p := h
theorem zb54 (h : p := by first | rfl | (simp; done) | (simp only [← hji6] <;> (first | rfl | simp)) | (simp [*]; done)) : p := h
theorem zb55 (h : p := by repeat (first | (with_reducible first | exact HK.out | apply Kept.alloc | apply Kept.drewN | apply Kept.drew) | exact HK.out)) : p := h
theorem zb56 (h : p := by have := HLT.out; omega) : p := h
theorem zb57 (h : p := by repeat (first | (with_reducible first | exact HB.out | apply Xj | apply XN | apply Jh | refine Xq ?_ XfW.out) | exact HB.out)) : p := h
theorem zb58 (h : p := by (with_reducible repeat (first | refine YE ?_ _ | refine XB ?_ | refine Ye ?_ _)); refine XX (cs := #[.int .i64 FB, .int .i64 S9, .slice UR DY.length UT]) ?_ 1 _ rfl; (with_reducible repeat (first | refine YE ?_ _ | refine XB ?_ | refine Ye ?_ _)); exact Jf.out) : p := h
theorem zb59 (h : p := by (with_reducible repeat (first | apply Kd.Yp | apply Kd.Y0 | apply Kd.YC)); exact HO_5.out) : p := h
theorem zb60 (h : p := by first | (simp; omega) | omega) : p := h
theorem zb61 (h : p := by (with_reducible repeat (first | apply Kd.Yp | apply Kd.Y0 | apply Kd.YC)); exact (Kd.XZ (Kd.YZ (p := ⟨Zw, 1, none⟩) (Kd.ZY Dm.out Jf.out (by decide)) (fun _ hk => hk.2) (.int .i64 0)) (fun _ h_ => h_.1))) : p := h
theorem zb62 (h : p := by have := HZ0.out; first | (simp; done) | (simp; omega) | omega) : p := h
theorem zb63 (h : p := by (with_reducible repeat (first | apply bn | apply bd | apply ba)); exact p8 J6) : p := h
theorem zb64 (h : p := by rw [hw]; exact XN LW2.out nd) : p := h
theorem zb65 (h : p := by have := HK1.out; have := HK2.out; omega) : p := h
theorem zb66 (h : p := by have := HI.out; omega) : p := h
theorem zb67 (h : p := by (with_reducible repeat (first | apply Kd.Yp | apply Kd.Y0 | apply Kd.YC)); exact Dm.out) : p := h
theorem zb68 (h : p := by have := hx.out; have := LY.out; have := of_decide_eq_true c3b; omega) : p := h
theorem zb69 (h : p := by simp [Value.ownBlock]) : p := h
theorem zb70 (h : p := by first | rfl | (simp [Dt, Du] <;> rfl) | (simp only [← hji4]; first | rfl | (simp [Dt, Du] <;> rfl)) | (simp [*, Dt, Du] <;> rfl)) : p := h
theorem zb71 (h : p := by (try simp only [List.map_toArray, List.map_cons, List.map_nil]); first | done | (simp only [hji9]; rfl) | rfl | (simp only [List.length_drop, List.length_take]; rfl)) : p := h
theorem zb72 (h : p := by (with_reducible repeat (first | apply bn | apply bd | apply ba)); exact JN.out) : p := h
theorem zb73 (h : p := by (with_reducible repeat (first | apply bn | apply bd | apply ba)); exact Y9.out) : p := h
theorem zb74 (h : p := by repeat (first | exact (Kd.Xg TN.out HB.out) | (with_reducible refine Kd.Jo ?_ _) | (with_reducible refine Kd.Jp ?_ _) | (with_reducible refine Kd.JJ ?_))) : p := h
theorem zb75 (h : p := by repeat (first | exact (Kd.Xg TP.out HB.out) | (with_reducible refine Kd.Jo ?_ _) | (with_reducible refine Kd.Jp ?_ _) | (with_reducible refine Kd.JJ ?_))) : p := h
theorem zb76 (h : p := by repeat (first | exact (Kd.Xg XfY.out HB.out) | (with_reducible refine Kd.Jo ?_ _) | (with_reducible refine Kd.Jp ?_ _) | (with_reducible refine Kd.JJ ?_))) : p := h
theorem zb77 (h : p := by repeat (first | exact (Kd.Xg XfZ.out HB.out) | (with_reducible refine Kd.Jo ?_ _) | (with_reducible refine Kd.Jp ?_ _) | (with_reducible refine Kd.JJ ?_))) : p := h
theorem zb78 (h : p := by (with_reducible repeat (first | apply bn | apply bd | apply ba)); exact p8 Y9) : p := h
theorem zb79 (h : p := by repeat (first | exact (Kd.Xg XrT.out HB.out) | (with_reducible refine Kd.Jo ?_ _) | (with_reducible refine Kd.Jp ?_ _) | (with_reducible refine Kd.JJ ?_))) : p := h
theorem zb80 (h : p := by rw [HN.out]; rfl) : p := h
theorem zb81 (h : p := by rw [← Ju _ _ 2 (by omega)]; exact hc 2 _ rfl) : p := h
theorem zb82 (h : p := by rw [← Ju _ _ 1 (by omega)]; exact hc 1 _ rfl) : p := h
theorem zb83 (h : p := by rw [h.len]; omega) : p := h
theorem zb84 (h : p := by (with_reducible repeat (first | apply Kd.Yp | apply Kd.Y0 | apply Kd.YC)); exact Kd.XZ HL407_2.out (fun _ hk => ⟨hk.2, hk.1.2⟩)) : p := h
theorem zb85 (h : p := by (with_reducible repeat (first | apply Kd.Yp | apply Kd.Y0 | apply Kd.YC)); exact Kd.XZ HL406_2.out (fun _ hk => ⟨hk.2, hk.1.2⟩)) : p := h
theorem zb86 (h : p := by exact (Zt.one (show Kd.M (Kd.int .u8) _ _ _ ((wrap64 (48 + (Int.tmod a0 10))) % 256) [.int .u8 ((wrap64 (48 + (Int.tmod a0 10))) % 256)] from rfl) (Zt.none _ _))) : p := h
theorem zb87 (h : p := by (with_reducible repeat (first | apply Kd.Yp | apply Kd.Y0 | apply Kd.YC)); exact Kd.XZ Uo.out (fun _ hk => ⟨hk.1.2, hk.2⟩)) : p := h
theorem zb88 (h : p := by (with_reducible repeat (first | apply Kd.Yp | apply Kd.Y0 | apply Kd.YC)); exact Kd.XZ HO_13.out (fun _ hk => ⟨trivial, hk⟩)) : p := h
theorem zb89 (h : p := by exact (fun _ _ => trivial)) : p := h
theorem zb90 (h : p := by repeat (first | exact Xga.out | (with_reducible refine Kd.Jo ?_ _) | (with_reducible refine Kd.Jp ?_ _) | (with_reducible refine Kd.JJ ?_))) : p := h
theorem zb91 (h : p := by (with_reducible repeat (first | apply Kd.Yp | apply Kd.Y0 | apply Kd.YC)); exact Kd.XZ HO_13.out (fun _ hk => hk.2)) : p := h
theorem zb92 (h : p := by rw [hw]; exact XN LW3.out nd) : p := h
theorem zb93 (h : p := by have := HK1.out; have := HJ6.out; omega) : p := h
theorem zb94 (h : p := by (repeat (first | (with_reducible first | apply bn | apply bd | apply ba) | apply bf YH)); exact Y9.out) : p := h
theorem zb95 (h : p := by rw [hg]; exact (XA zb0)) : p := h
theorem zb96 (h : p := by (try simp only [List.map_toArray, List.map_cons, List.map_nil]); first | done | rfl) : p := h
theorem zb97 (h : p := by rw [hg]; exact (XA zb1)) : p := h
theorem zb98 (h : p := by have := HZ0.out; omega) : p := h
theorem zb99 (h : p := by simp; omega) : p := h
theorem zb100 (h : p := by rw [hg]; exact Nat.ne_of_lt (Z5 (g := Dc) (o := .cells #[.int .i64 Xu, .int .i64 Xy, .slice Yg Xm.length Yh] 56 (0, 0)) zb17)) : p := h
theorem zb101 (h : p := by rw [hg]; exact Nat.ne_of_gt (Z5 (g := Dc) (o := .cells #[.int .i64 Xu, .int .i64 Xy, .slice Yg Xm.length Yh] 56 (0, 0)) zb17)) : p := h
theorem zb102 (h : p := by (with_reducible repeat (first | refine YE ?_ _ | refine XB ?_ | refine Ye ?_ _)); refine ZJ ?_ Da.out _; (with_reducible repeat (first | refine YE ?_ _ | refine XB ?_ | refine Ye ?_ _)); exact Vj.out) : p := h
theorem zb103 (h : p := by (with_reducible repeat (first | refine YE ?_ _ | refine XB ?_ | refine Ye ?_ _)); refine ZJ ?_ Dn.out _; (with_reducible repeat (first | refine YE ?_ _ | refine XB ?_ | refine Ye ?_ _)); exact Jr.out) : p := h
theorem zb104 (h : p := by (with_reducible repeat (first | refine YE ?_ _ | refine XB ?_ | refine Ye ?_ _)); refine ZJ ?_ Dp.out _; (with_reducible repeat (first | refine YE ?_ _ | refine XB ?_ | refine Ye ?_ _)); exact JU.out) : p := h
theorem zb105 (h : p := by rw [hg]; exact Nat.ne_of_lt (Z5 (g := Vo) (o := .cells #[.int .i64 Zd, .int .i64 Zk, .int .i64 Vd, .int .i64 YU, .int .i64 ZI, .int .i64 ZA, .int .i64 Ve, .int .i64 Vf] 76 (0, 0)) zb25)) : p := h
theorem zb106 (h : p := by rw [hg]; exact Nat.ne_of_gt (Z5 (g := Vo) (o := .cells #[.int .i64 Zd, .int .i64 Zk, .int .i64 Vd, .int .i64 YU, .int .i64 ZI, .int .i64 ZA, .int .i64 Ve, .int .i64 Vf] 76 (0, 0)) zb25)) : p := h
theorem zb107 (h : p := by have := Wx X Y x.toNat; have := hx.out; omega) : p := h
theorem zb108 (h : p := by as_aux_lemma => unfold Func.isWrapper; first | (rw [if_pos (by decide +kernel)]; kernel_rfl) | (rw [if_neg (by decide +kernel)]; exact ⟨rfl, rfl⟩)) : p := h
theorem zb109 (h : p := by (with_reducible repeat (first | apply Kd.Yp | apply Kd.Y0 | apply Kd.YC)); exact Kd.XZ Xgb.out (fun _ hk => zb69)) : p := h
theorem zb110 (h : p := by repeat (first | exact zb23 | (with_reducible refine Kd.Jo ?_ _) | (with_reducible refine Kd.Jp ?_ _) | (with_reducible refine Kd.JJ ?_))) : p := h
theorem zb111 (h : p := by (with_reducible repeat (first | refine YE ?_ _ | refine XB ?_ | refine Ye ?_ _)); exact Jf.out) : p := h
