import Derived.WalkKit
/- Blocks of tactics that stand often, under short names; a block is run where its name stands. -/
variable {p : Prop}
theorem zb0 (h : p := by (try simp only [List.map_toArray, List.map_cons, List.map_nil]); first | done | rfl | (simp only [List.length_drop, List.length_take]; rfl)) : p := h
theorem zb1 (h : p := by repeat (first | (with_reducible first | exact HB.out | apply wa | apply wn | apply wd) | exact HB.out)) : p := h
theorem zb2 (h : p := by repeat (first | (with_reducible first | exact HK.out | apply Xj.Xer | apply M4 | apply Mk | apply Fa | refine NG ?_ Xbn.out _ | refine NG ?_ XeV.out _) | exact HK.out)) : p := h
theorem zb3 (h : p := by repeat (first | (with_reducible first | exact HB.out | apply wa | apply wn | apply wd | refine Xc ?_ (X7.ge HI0.out) | refine ws ‹_› ?_) | exact HB.out)) : p := h
theorem zb4 (h : p := by repeat (first | (with_reducible first | exact HB.out | apply Xd | apply XD | apply Yq) | exact HB.out)) : p := h
theorem zb5 (h : p := by repeat (first | (with_reducible first | exact HI0.out | apply X7.alloc | apply X7.drewN | apply X7.drew | apply X7.Ez | refine X7.far ?_ JY.out _ | refine X7.far ?_ Vn.out _) | exact HI0.out)) : p := h
theorem zb6 (h : p := by repeat (first | (with_reducible first | exact HB.out | apply wa | apply wn | apply wd | refine ws ‹_› ?_) | exact HB.out)) : p := h
theorem zb7 (h : p := by first | (with_reducible assumption) | assumption) : p := h
theorem zb8 (h : p := by first | rfl | (simp [YN, YO] <;> rfl) | (simp [*, YN, YO] <;> rfl)) : p := h
theorem zb9 (h : p := by repeat (first | (with_reducible first | exact HI0.out | apply X7.alloc | apply X7.drewN | apply X7.drew | apply X7.Ez | refine X7.far ?_ NM.out _ | refine X7.far ?_ Gd.out _) | exact HI0.out)) : p := h
theorem zb10 (h : p := by repeat (first | (with_reducible first | exact HK.out | apply Xj.Xer | apply M4 | apply Mk | apply Fa | refine NG ?_ XlS.out _ | refine NG ?_ Xqi.out _) | exact HK.out)) : p := h
theorem zb11 (h : p := by repeat (first | (with_reducible first | exact HK.out | apply Kept.alloc | apply Kept.drewN | apply Kept.drew | refine Kept.setCell ?_ (.inr Xco.out) _ | refine Kept.setCell ?_ (.inr XlT.out) _ | refine Kept.setCell ?_ (.inr U6.out) _) | exact HK.out)) : p := h
theorem zb12 (h : p := by first | rfl | (simp; done) | (simp [*]; done)) : p := h
theorem zb13 (h : p := by (with_reducible repeat (first | apply Kd.Me | apply Kd.Mf | apply Kd.SA)); exact HO_5.out) : p := h
theorem zb14 (h : p := by kernel_rfl) : p := h
theorem zb15 (h : p := by repeat (first | exact (Kd.JN HR0.out HB.out) | (with_reducible refine Kd.Z0 ?_ _) | (with_reducible refine Kd.Z4 ?_ _) | (with_reducible refine Kd.Jt ?_))) : p := h
theorem zb16 (h : p := by (with_reducible repeat (first | apply Kd.Yf | apply Kd.Ym | apply Kd.Y3)); exact HO_6.out) : p := h
theorem zb17 (h : p := by repeat (first | exact HR0.out | (with_reducible refine Kd.Z0 ?_ _) | (with_reducible refine Kd.Z4 ?_ _) | (with_reducible refine Kd.Jt ?_))) : p := h
theorem zb18 (h : p := by first | exact Kd.Xd9 _ _ _ _ _ | exact Kd.XtK _ _ _ _ _ | exact Kd.XtL _ _ _ _ _ | exact Kd.XtM _ _ _ _ _ | exact Kd.XtN _ _ _ _ _) : p := h
theorem zb19 (h : p := by repeat (first | (with_reducible first | exact HI0.out | apply X7.alloc | apply X7.drewN | apply X7.drew | apply X7.Ez) | exact HI0.out)) : p := h
theorem zb20 (h : p := by repeat (first | (with_reducible first | exact HK.out | apply Xj.Xer | apply M4 | apply Mk | apply Fa) | exact HK.out)) : p := h
theorem zb21 (h : p := by (with_reducible repeat (first | apply Kd.Yf | apply Kd.Ym | apply Kd.Y3)); exact Vd.out) : p := h
theorem zb22 (h : p := by first | (go_simp; done) | (go_simp; rfl)) : p := h
theorem zb23 (h : p := by repeat (first | exact (Kd.XF HO_5.out).2.2 | (with_reducible refine Kd.Z0 ?_ _) | (with_reducible refine Kd.Z4 ?_ _) | (with_reducible refine Kd.Jt ?_))) : p := h
theorem zb24 (h : p := by (repeat (first | (with_reducible first | apply bn | apply bd | apply ba) | apply bf JH)); exact Zl.out) : p := h
theorem zb25 (h : p := by repeat (first | exact Vp.refl _ | apply Vp.step)) : p := h
theorem zb26 (h : p := by (with_reducible repeat (first | apply bn | apply bd | apply ba)); exact Xu.out) : p := h
theorem zb27 (h : p := by (with_reducible repeat (first | apply bn | apply bd | apply ba)); exact Xw.out) : p := h
theorem zb28 (h : p := by (with_reducible repeat (first | apply bn | apply bd | apply ba)); exact XM.out) : p := h
theorem zb29 (h : p := by (with_reducible repeat (first | apply Kd.Yf | apply Kd.Ym | apply Kd.Y3)); exact HO_5.out) : p := h
theorem zb30 (h : p := by have := HZ0.out; simp; omega) : p := h
theorem zb31 (h : p := by have h_ := Yg.new (w.alloc (.cells #[.slice A0 l0.length c0, .slice A1 l1.length c1, .slice A2 l2.length c2, .int .i64 a3, .bool a4] 52)) (.slice none 0 0) (.slice none 0 0) (.slice none 0 0) 0 false; simpa using h_) : p := h
theorem zb32 (h : p := by (with_reducible repeat (first | apply Kd.Me | apply Kd.Mf | apply Kd.SA)); exact HO_3.out) : p := h
theorem zb33 (h : p := by repeat (first | (with_reducible first | exact HI0.out | apply X7.alloc | apply X7.drewN | apply X7.drew | apply X7.Ez | refine X7.far ?_ JY.out _) | exact HI0.out)) : p := h
theorem zb34 (h : p := by repeat (first | (with_reducible first | exact HI0.out | apply X7.alloc | apply X7.drewN | apply X7.drew | apply X7.Ez | refine X7.far ?_ NM.out _) | exact HI0.out)) : p := h
theorem zb35 (h : p := by repeat (first | (with_reducible first | exact HK.out | apply Xj.Xer | apply M4 | apply Mk | apply Fa | refine NG ?_ Xbn.out _) | exact HK.out)) : p := h
theorem zb36 (h : p := by repeat (first | (with_reducible first | exact HK.out | apply Xj.Xer | apply M4 | apply Mk | apply Fa | refine NG ?_ XlS.out _) | exact HK.out)) : p := h
theorem zb37 (h : p := by (with_reducible repeat (first | apply bn | apply bd | apply ba)); exact p6 Xu) : p := h
theorem zb38 (h : p := by (with_reducible repeat (first | apply Kd.V9 | apply Kd.VA | apply Kd.Fb)); exact U0.out) : p := h
theorem zb39 (h : p := by (with_reducible repeat (first | apply Kd.Yf | apply Kd.Ym | apply Kd.Y3)); exact Nb.out) : p := h
theorem zb40 (h : p := by (with_reducible repeat (first | apply Kd.VI | apply Kd.VJ | apply Kd.Du)); exact Vy.out) : p := h
theorem zb41 (h : p := by (with_reducible repeat (first | apply Kd.VI | apply Kd.VJ | apply Kd.Du)); exact Vz.out) : p := h
theorem zb42 (h : p := by (with_reducible repeat (first | apply Kd.Yf | apply Kd.Ym | apply Kd.Y3)); exact Kr.out) : p := h
theorem zb43 (h : p := by repeat (first | (with_reducible first | exact HB.out | apply Xd | apply XD | apply Yq | refine Xc ?_ XlU.out | refine Xc ?_ Xqj.out) | exact HB.out)) : p := h
theorem zb44 (h : p := by repeat (first | (with_reducible exact OJ.out) | (with_reducible refine Kd.Z0 ?_ _) | (with_reducible refine Kd.Z4 ?_ _) | (with_reducible refine Kd.Jt ?_) | exact OJ.out)) : p := h
theorem zb45 (h : p := by (with_reducible repeat (first | apply Kd.Yf | apply Kd.Ym | apply Kd.Y3)); exact HO_3.out) : p := h
theorem zb46 (h : p := by repeat (first | (with_reducible first | exact HB.out | apply Xd | apply XD | apply Yq | refine Xc ?_ (X7.ge HI0.out)) | exact HB.out)) : p := h
theorem zb47 (h : p := by (with_reducible repeat (first | apply bn | apply bd | apply ba)); refine X5 (cs := #[.int .i64 (wrap64 (1 + Y0)), .int .i64 (wrap64 (1 + ZE)), .int .i64 0, .int .i64 0, .int .i64 0, .int .i64 0, .int .i64 Zv, .int .i64 0]) ?_ 2 _ rfl; (with_reducible repeat (first | apply bn | apply bd | apply ba)); exact Yk.out) : p := h
theorem zb48 (h : p := by exact (Zo.c8 (show Kd.M k41 _ _ _ (⟨Jd, Jq, YH, Yu, Zz, Jb, ZF, Jw⟩ : S41) [.int .i64 Jd, .int .i64 Jq, .int .i64 YH, .int .i64 Yu, .int .i64 Zz, .int .i64 Jb, .int .i64 ZF, .int .i64 Jw] from (CO _ _ _ (⟨Jd, Jq, YH, Yu, Zz, Jb, ZF, Jw⟩ : S41) )) (Zo.none _ _))) : p := h
theorem zb49 (h : p := by first | rfl | (simp; done) | (simp [hw1]; done) | go_num) : p := h
theorem zb50 (h : p := by simp [results, Try.results127, go_sem, *]) : p := h
theorem zb51 (h : p := by first | omega | exact Nat.le_refl _) : p := h
theorem zb52 (h : p := by (with_reducible repeat (first | apply bn | apply bd | apply ba)); exact Vt.out) : p := h
theorem zb53 (h : p := by (with_reducible repeat (first | apply bn | apply bd | apply ba)); exact Yt.out) : p := h
theorem zb54 (h : p := by have := HK1.out; omega) : p := h
theorem zb55 (h : p := by first | rfl | (simp [YN, YO] <;> rfl) | (simp only [← Xai]; first | rfl | (simp [YN, YO] <;> rfl)) | (simp [*, YN, YO] <;> rfl)) : p := h
theorem zb56 (h : p := by (with_reducible repeat (first | apply Kd.Me | apply Kd.Mf | apply Kd.SA)); exact Wh.out) : p := h
theorem zb57 (h : p := by (with_reducible repeat (first | apply Kd.Me | apply Kd.Mf | apply Kd.SA)); exact Wi.out) : p := h
theorem zb58 (h : p := by (with_reducible repeat (first | apply Kd.Me | apply Kd.Mf | apply Kd.SA)); exact Wj.out) : p := h
theorem zb59 (h : p := by rw [hg]; exact (Xr (by repeat (first | (with_reducible first | exact HBW.out | apply Xd | apply XD | apply Yq) | exact HBW.out)))) : p := h
theorem zb60 (h : p := by repeat (first | (with_reducible first | exact HB.out | apply Xd | apply XD | apply Yq | refine Xc ?_ Xqk.out) | exact HB.out)) : p := h
theorem zb61 (h : p := by repeat (first | exact (Kd.JN Rb.out HB.out) | (with_reducible refine Kd.Z0 ?_ _) | (with_reducible refine Kd.Z4 ?_ _) | (with_reducible refine Kd.Jt ?_))) : p := h
theorem zb62 (h : p := by first | (rw [add_block]; exact F4) | (show (Addr.add _ _).block ≠ _; rw [add_block]; exact F4) | exact F4) : p := h
theorem zb63 (h : p := by first | (rw [add_block]; exact F5) | (show (Addr.add _ _).block ≠ _; rw [add_block]; exact F5) | exact F5) : p := h
theorem zb64 (h : p := by first | (rw [add_block]; exact F6) | (show (Addr.add _ _).block ≠ _; rw [add_block]; exact F6) | exact F6) : p := h
theorem zb65 (h : p := by first | (rw [add_block]; exact F7) | (show (Addr.add _ _).block ≠ _; rw [add_block]; exact F7) | exact F7) : p := h
theorem zb66 (h : p := by first | (rw [add_block]; exact F8) | (show (Addr.add _ _).block ≠ _; rw [add_block]; exact F8) | exact F8) : p := h
theorem zb67 (h : p := by first | (rw [add_block]; exact F9) | (show (Addr.add _ _).block ≠ _; rw [add_block]; exact F9) | exact F9) : p := h
theorem zb68 (h : p := by first | (rw [add_block]; exact FB) | (show (Addr.add _ _).block ≠ _; rw [add_block]; exact FB) | exact FB) : p := h
theorem zb69 (h : p := by first | (rw [add_block]; exact FC) | (show (Addr.add _ _).block ≠ _; rw [add_block]; exact FC) | exact FC) : p := h
theorem zb70 (h : p := by repeat (first | exact (Kd.Xk Vd.out).2.2 | (with_reducible refine Kd.Z0 ?_ _) | (with_reducible refine Kd.Z4 ?_ _) | (with_reducible refine Kd.Jt ?_))) : p := h
theorem zb71 (h : p := by repeat (first | exact (Kd.XF Wh.out).2.2 | (with_reducible refine Kd.Z0 ?_ _) | (with_reducible refine Kd.Z4 ?_ _) | (with_reducible refine Kd.Jt ?_))) : p := h
theorem zb72 (h : p := by repeat (first | exact (Kd.XF Wi.out).2.2 | (with_reducible refine Kd.Z0 ?_ _) | (with_reducible refine Kd.Z4 ?_ _) | (with_reducible refine Kd.Jt ?_))) : p := h
theorem zb73 (h : p := by repeat (first | exact (Kd.XF Wj.out).2.2 | (with_reducible refine Kd.Z0 ?_ _) | (with_reducible refine Kd.Z4 ?_ _) | (with_reducible refine Kd.Jt ?_))) : p := h
theorem zb74 (h : p := by simp only [Tc, Act.put, List.setIfInBounds_toArray, List.set_cons_zero, List.set_cons_succ]) : p := h
theorem zb75 (h : p := by (with_reducible repeat (first | refine Zp ?_ _ | refine XZ ?_ | refine XN ?_ _)); exact Fu.out) : p := h
theorem zb76 (h : p := by repeat (first | (with_reducible exact HB0.out) | (with_reducible refine Xd ?_ _) | (with_reducible refine XD ?_ _) | (with_reducible refine XR ?_) | (refine Xc ?_ (by have := HZ0.out; omega)))) : p := h
theorem zb77 (h : p := by (with_reducible repeat (first | apply Kd.Yf | apply Kd.Ym | apply Kd.Y3)); exact P5.out) : p := h
theorem zb78 (h : p := by (with_reducible repeat (first | apply Kd.Yf | apply Kd.Ym | apply Kd.Y3)); exact U7.out) : p := h
theorem zb79 (h : p := by (with_reducible repeat (first | apply Kd.Yf | apply Kd.Ym | apply Kd.Y3)); exact Wl.out) : p := h
theorem zb80 (h : p := by (with_reducible repeat (first | apply Kd.Yf | apply Kd.Ym | apply Kd.Y3)); exact P6.out) : p := h
theorem zb81 (h : p := by (with_reducible repeat (first | apply Kd.Me | apply Kd.Mf | apply Kd.SA)); exact Kt.out) : p := h
theorem zb82 (h : p := by first | omega | (simp; done) | (simp; omega)) : p := h
theorem zb83 (h : p := by first | rfl | (simp; done) | (simp only [← hji6] <;> (first | rfl | simp)) | (simp [*]; done)) : p := h
theorem zb84 (h : p := by first | rfl | (simp; done) | (rw [Fq]; done) | (simp only [← hji4] <;> (first | rfl | simp)) | (simp [*]; done)) : p := h
theorem zb85 (h : p := by first | rfl | (simp [YN, YO] <;> rfl) | (simp only [← Xcp]; first | rfl | (simp [YN, YO] <;> rfl)) | (simp [*, YN, YO] <;> rfl)) : p := h
theorem zb86 (h : p := by have := HLT.out; omega) : p := h
theorem zb87 (h : p := by (try simp only [List.map_toArray, List.map_cons, List.map_nil]); first | done | (simp only [Xcp]; rfl) | rfl | (simp only [List.length_drop, List.length_take]; rfl)) : p := h
theorem zb88 (h : p := by repeat (first | (with_reducible first | exact HB.out | apply Xd | apply XD | apply Yq | refine Xc ?_ XlU.out) | exact HB.out)) : p := h
theorem zb89 (h : p := by repeat (first | (with_reducible first | exact HB.out | apply Xd | apply XD | apply Yq | refine Xc ?_ XlV.out) | exact HB.out)) : p := h
theorem zb90 (h : p := by repeat (first | (with_reducible first | exact HB.out | apply Xd | apply XD | apply Yq | refine Xc ?_ Xql.out) | exact HB.out)) : p := h
theorem zb91 (h : p := by repeat (first | exact (Kd.JN Xcq.out HB.out) | (with_reducible refine Kd.Z0 ?_ _) | (with_reducible refine Kd.Z4 ?_ _) | (with_reducible refine Kd.Jt ?_))) : p := h
theorem zb92 (h : p := by repeat (first | exact (Kd.Xk SQ.out).2.2 | (with_reducible refine Kd.Z0 ?_ _) | (with_reducible refine Kd.Z4 ?_ _) | (with_reducible refine Kd.Jt ?_))) : p := h
theorem zb93 (h : p := by repeat (first | exact (Kd.XF Kt.out).2.2 | (with_reducible refine Kd.Z0 ?_ _) | (with_reducible refine Kd.Z4 ?_ _) | (with_reducible refine Kd.Jt ?_))) : p := h
theorem zb94 (h : p := by repeat (first | exact (Kd.XF HO_3.out).2.2 | (with_reducible refine Kd.Z0 ?_ _) | (with_reducible refine Kd.Z4 ?_ _) | (with_reducible refine Kd.Jt ?_))) : p := h
theorem zb95 (h : p := by (with_reducible repeat (first | apply bn | apply bd | apply ba)); exact p8 Yk) : p := h
theorem zb96 (h : p := by (with_reducible repeat (first | apply Kd.Yf | apply Kd.Ym | apply Kd.Y3)); exact LU.out) : p := h
theorem zb97 (h : p := by (with_reducible repeat (first | apply Kd.Yf | apply Kd.Ym | apply Kd.Y3)); exact LV.out) : p := h
theorem zb98 (h : p := by first | (simp; omega) | omega) : p := h
theorem zb99 (h : p := by repeat (first | (with_reducible first | exact HB.out | apply wa | apply wn | apply wd | refine Xc ?_ (X7.ge HI0.out)) | exact HB.out)) : p := h
theorem zb100 (h : p := by simp [results, Try.results134, go_sem, *]) : p := h
theorem zb101 (h : p := by (with_reducible repeat (first | apply Kd.V9 | apply Kd.VA | apply Kd.Fb)); exact Kd.Kj Nc.out (fun _ hk => hk.2)) : p := h
theorem zb102 (h : p := by (with_reducible repeat (first | apply Kd.V9 | apply Kd.VA | apply Kd.Fb)); exact Kd.Kj U0.out (fun _ hk => hk.2)) : p := h
theorem zb103 (h : p := by (with_reducible repeat (first | apply Kd.Yf | apply Kd.Ym | apply Kd.Y3)); exact Kd.XY Bc.out (fun _ hk => hk.2)) : p := h
theorem zb104 (h : p := by (with_reducible repeat (first | apply Kd.VI | apply Kd.VJ | apply Kd.Du)); exact Kd.VM Vy.out (fun _ hk => ⟨hk.1.1, ⟨hk.1.2.1, ⟨hk.2, ⟨hk.1.2.2.1, ⟨hk.1.2.2.2.1, ⟨hk.1.2.2.2.2.1, hk.1.2.2.2.2.2⟩⟩⟩⟩⟩⟩)) : p := h
theorem zb105 (h : p := by (with_reducible repeat (first | apply Kd.VI | apply Kd.VJ | apply Kd.Du)); exact Kd.VM Vz.out (fun _ hk => ⟨hk.1.1, ⟨hk.1.2.1, ⟨hk.2, ⟨hk.1.2.2.1, ⟨hk.1.2.2.2.1, ⟨hk.1.2.2.2.2.1, hk.1.2.2.2.2.2⟩⟩⟩⟩⟩⟩)) : p := h
theorem zb106 (h : p := by show (0 : Int) ≤ 0 ∧ (0 : Int) ≤ (L.length : Int); omega) : p := h
theorem zb107 (h : p := by (with_reducible repeat (first | apply bn | apply bd | apply ba)); exact ZP.out) : p := h
theorem zb108 (h : p := by (with_reducible repeat (first | apply bn | apply bd | apply ba)); exact Yb.out) : p := h
theorem zb109 (h : p := by (with_reducible repeat (first | refine Zp ?_ _ | refine XZ ?_ | refine XN ?_ _)); exact Gf.out) : p := h
theorem zb110 (h : p := by have h_ := Yg.new (w.alloc (.cells #[.slice A0 l0.length c0, .slice A1 l1.length c1, .slice A2 l2.length c2, .int .i64 a3, .bool false] 52)) (.slice none 0 0) (.slice none 0 0) (.slice none 0 0) 0 false; simpa using h_) : p := h
theorem zb111 (h : p := by repeat (first | (with_reducible first | exact HK.out | apply Kept.alloc | apply Kept.drewN | apply Kept.drew | refine Kept.setCell ?_ (.inr Xco.out) _ | refine Kept.setCell ?_ (.inr XlT.out) _) | exact HK.out)) : p := h
theorem zb112 (h : p := by have := HI.out; omega) : p := h
theorem zb113 (h : p := by (with_reducible repeat (first | apply Kd.Yf | apply Kd.Ym | apply Kd.Y3)); exact SQ.out) : p := h
theorem zb114 (h : p := by (with_reducible repeat (first | apply Kd.Yf | apply Kd.Ym | apply Kd.Y3)); exact Bc.out) : p := h
theorem zb115 (h : p := by first | exact (hB1.alloc hB1.size _).setCell (p := ⟨w.heap.size + 1, 0, none⟩) (by simp) _ | exact (hB1.setCell (p := ⟨w.heap.size + 1, 0, none⟩) (by simp) _).alloc (by simp; exact hB1.size) _) : p := h
theorem zb116 (h : p := by simp [results, Try.results107, go_sem, *]) : p := h
theorem zb117 (h : p := by repeat (first | (with_reducible exact XeW.out) | (with_reducible refine Kd.Z0 ?_ _) | (with_reducible refine Kd.Z4 ?_ _) | (with_reducible refine Kd.Jt ?_) | exact XeW.out)) : p := h
theorem zb118 (h : p := by (with_reducible repeat (first | apply Kd.Yf | apply Kd.Ym | apply Kd.Y3)); exact Kd.XY U7.out (fun _ hk => ⟨hk.1.1, ⟨hk.1.2.1, ⟨hk.2, hk.1.2.2⟩⟩⟩)) : p := h
theorem zb119 (h : p := by (with_reducible repeat (first | apply Kd.Yf | apply Kd.Ym | apply Kd.Y3)); exact Kd.XY Vd.out (fun _ hk => ⟨hk.1.1, ⟨hk.2, ⟨hk.1.2.1, hk.1.2.2⟩⟩⟩)) : p := h
theorem zb120 (h : p := by simp [Value.ownBlock]) : p := h
theorem zb121 (h : p := by exact (Zo.none _ _)) : p := h
theorem zb122 (h : p := by repeat (first | (with_reducible first | exact HK.out | apply Kept.alloc | apply Kept.drewN | apply Kept.drew | refine Kept.setCell ?_ (.inr Xco.out) _) | exact HK.out)) : p := h
theorem zb123 (h : p := by exact (Kd.XF HO_5.out).2.1) : p := h
theorem zb124 (h : p := by simp [results, Try.results155, go_sem, *]) : p := h
theorem zb125 (h : p := by simp [results, Try.results133, go_sem, *]) : p := h
theorem zb126 (h : p := by simp [results, Try.results132, go_sem, *]) : p := h
theorem zb127 (h : p := by repeat (first | exact (Kd.JN XlW.out HB.out) | (with_reducible refine Kd.Z0 ?_ _) | (with_reducible refine Kd.Z4 ?_ _) | (with_reducible refine Kd.Jt ?_))) : p := h
theorem zb128 (h : p := by repeat (first | exact (Kd.JN Xcr.out HB.out) | (with_reducible refine Kd.Z0 ?_ _) | (with_reducible refine Kd.Z4 ?_ _) | (with_reducible refine Kd.Jt ?_))) : p := h
theorem zb129 (h : p := by repeat (first | exact (Kd.Xk Re.out).2.2 | (with_reducible refine Kd.Z0 ?_ _) | (with_reducible refine Kd.Z4 ?_ _) | (with_reducible refine Kd.Jt ?_))) : p := h
theorem zb130 (h : p := by repeat (first | exact (Kd.Xk P5.out).2.2 | (with_reducible refine Kd.Z0 ?_ _) | (with_reducible refine Kd.Z4 ?_ _) | (with_reducible refine Kd.Jt ?_))) : p := h
theorem zb131 (h : p := by repeat (first | exact (Kd.Xk Rf.out).2.2 | (with_reducible refine Kd.Z0 ?_ _) | (with_reducible refine Kd.Z4 ?_ _) | (with_reducible refine Kd.Jt ?_))) : p := h
theorem zb132 (h : p := by repeat (first | exact (Kd.Xk P6.out).2.2 | (with_reducible refine Kd.Z0 ?_ _) | (with_reducible refine Kd.Z4 ?_ _) | (with_reducible refine Kd.Jt ?_))) : p := h
theorem zb133 (h : p := by first | exact ((KeepsOthers.alloc _ _).trans (KeepsOthers.setCell _ _ _)).from _ | exact ((KeepsOthers.setCell _ _ _).trans (KeepsOthers.alloc _ _)).from _) : p := h
theorem zb134 (h : p := by exact (Zo.c8 (CO _ _ _ (⟨b1, b2, b3, b4, b5, b6, b7, b8⟩ : S41)) (Zo.none _ _))) : p := h
theorem zb135 (h : p := by exact (fun _ _ => trivial)) : p := h
theorem zb136 (h : p := by rw [HN.out]; rfl) : p := h
theorem zb137 (h : p := by (with_reducible repeat (first | apply Kd.Yf | apply Kd.Ym | apply Kd.Y3)); exact Kd.XY P5.out (fun _ hk => trivial)) : p := h
theorem zb138 (h : p := by (with_reducible repeat (first | apply Kd.Yf | apply Kd.Ym | apply Kd.Y3)); exact Kd.XY P6.out (fun _ hk => trivial)) : p := h
theorem zb139 (h : p := by rw [List.length_drop]; omega) : p := h
theorem zb140 (h : p := by repeat (first | (with_reducible first | exact HK.out | apply Kept.alloc | apply Kept.drewN | apply Kept.drew) | exact HK.out)) : p := h
theorem zb141 (h : p := by have := HZ0.out; first | (simp; done) | (simp; omega) | omega) : p := h
theorem zb142 (h : p := by simp [results, Try.results139, go_sem, *]) : p := h
theorem zb143 (h : p := by (with_reducible repeat (first | refine Zp ?_ _ | refine XZ ?_ | refine XN ?_ _)); exact ME.out) : p := h
theorem zb144 (h : p := by (with_reducible repeat (first | refine Zp ?_ _ | refine XZ ?_ | refine XN ?_ _)); exact FV.out) : p := h
theorem zb145 (h : p := by exact CO _ _ _ (⟨4, rd Yv (Vx), 0, 0, 0, 0, Zv, 0⟩ : S41)) : p := h
theorem zb146 (h : p := by (try simp only [List.map_toArray, List.map_cons, List.map_nil]); first | done | rfl) : p := h
theorem zb147 (h : p := by exact (fun k_ hk => ⟨(.inr (Nat.le_trans (by first | exact HK.out.1 | exact (show Kept w _ (fun k_ => P0_2_ k_) from zb11).1) hk)), Kd.fresh' (Kd.Fe zb21) k_ hk, Kd.fresh' (Kd.Fe zb78) k_ hk, Kd.XgY (g := XI) (o := .cells #[.int .i64 Jd, .int .i64 Jq, .int .i64 YH, .int .i64 Yu, .int .i64 Zz, .int .i64 Jb, .int .i64 ZF, .int .i64 Jw] 41 (0, 0)) zb28 k_ hk⟩)) : p := h
theorem zb148 (h : p := by rw [hg]; exact (Xr zb1)) : p := h
theorem zb149 (h : p := by as_aux_lemma => unfold Func.isWrapper; first | (rw [if_pos (by decide +kernel)]; kernel_rfl) | (rw [if_neg (by decide +kernel)]; exact ⟨rfl, rfl⟩)) : p := h
theorem zb150 (h : p := by rw [hg]; exact (G7 (w := w) (g := g) (row := none) zb20)) : p := h
theorem zb151 (h : p := by have := HZ0.out; omega) : p := h
theorem zb152 (h : p := by have := HK1.out; first | omega | exact Nat.le_refl _) : p := h
theorem zb153 (h : p := by simp; omega) : p := h
theorem zb154 (h : p := by rw [hg]; exact (Xr zb4)) : p := h
theorem zb155 (h : p := by exact (fun k_ hk => Kd.fresh' (Kd.Xk8 zb13) k_ hk)) : p := h
theorem zb156 (h : p := by rw [hg]; exact (G7 (w := w) (g := g) (row := none) zb35)) : p := h
theorem zb157 (h : p := by as_aux_lemma => kernel_rfl) : p := h
theorem zb158 (h : p := by repeat (first | exact (Kd.JN Rb.out zb6) | (with_reducible refine Kd.Z0 ?_ _) | (with_reducible refine Kd.Z4 ?_ _) | (with_reducible refine Kd.Jt ?_))) : p := h
theorem zb159 (h : p := by repeat (first | exact (Kd.JN Xcq.out zb6) | (with_reducible refine Kd.Z0 ?_ _) | (with_reducible refine Kd.Z4 ?_ _) | (with_reducible refine Kd.Jt ?_))) : p := h
theorem zb160 (h : p := by repeat (first | exact (Kd.JN Xcr.out zb6) | (with_reducible refine Kd.Z0 ?_ _) | (with_reducible refine Kd.Z4 ?_ _) | (with_reducible refine Kd.Jt ?_))) : p := h
theorem zb161 (h : p := by have := HJ2.out; first | omega | exact Nat.le_refl _) : p := h
theorem zb162 (h : p := by repeat (first | exact zb44 | (with_reducible refine Kd.Z0 ?_ _) | (with_reducible refine Kd.Z4 ?_ _) | (with_reducible refine Kd.Jt ?_))) : p := h
theorem zb163 (h : p := by first | exact HK.out.1 | exact (show Kept w _ (fun k_ => P0_2_ k_) from zb11).1) : p := h
