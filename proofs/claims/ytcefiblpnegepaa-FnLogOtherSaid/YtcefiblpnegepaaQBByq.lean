import Derived.WalkKit
/- Blocks of tactics that stand often, under short names; a block is run where its name stands. -/
variable {p : Prop}
theorem zb0 (h : p := by (try simp only [List.map_toArray, List.map_cons, List.map_nil]); first | done | rfl | (simp only [List.length_drop, List.length_take]; rfl)) : p := h
theorem zb1 (h : p := by repeat (first | (with_reducible first | exact HB.out | apply wa | apply wn | apply wd) | exact HB.out)) : p := h
theorem zb2 (h : p := by repeat (first | (with_reducible first | exact HK.out | apply Xl.XdI | apply M6 | apply Ml | apply DY | refine NH ?_ XaM.out _ | refine NH ?_ Xe1.out _) | exact HK.out)) : p := h
theorem zb3 (h : p := by repeat (first | (with_reducible first | exact HB.out | apply wa | apply wn | apply wd | refine Xc ?_ (XA.ge HI0.out) | refine ws ‹_› ?_) | exact HB.out)) : p := h
theorem zb4 (h : p := by repeat (first | (with_reducible first | exact HI0.out | apply XA.alloc | apply XA.drewN | apply XA.drew | apply XA.BH | refine XA.far ?_ JW.out _ | refine XA.far ?_ Vi.out _) | exact HI0.out)) : p := h
theorem zb5 (h : p := by repeat (first | (with_reducible first | exact HB.out | apply Xd | apply XF | apply Yt) | exact HB.out)) : p := h
theorem zb6 (h : p := by repeat (first | (with_reducible first | exact HB.out | apply wa | apply wn | apply wd | refine ws ‹_› ?_) | exact HB.out)) : p := h
theorem zb7 (h : p := by repeat (first | (with_reducible first | exact HI0.out | apply XA.alloc | apply XA.drewN | apply XA.drew | apply XA.BH | refine XA.far ?_ NN.out _ | refine XA.far ?_ Gg.out _) | exact HI0.out)) : p := h
theorem zb8 (h : p := by repeat (first | (with_reducible first | exact HK.out | apply Xl.XdI | apply M6 | apply Ml | apply DY | refine NH ?_ Xld.out _ | refine NH ?_ Xp7.out _) | exact HK.out)) : p := h
theorem zb9 (h : p := by first | (with_reducible assumption) | assumption) : p := h
theorem zb10 (h : p := by repeat (first | (with_reducible first | exact HK.out | apply Kept.alloc | apply Kept.drewN | apply Kept.drew | refine Kept.setCell ?_ (.inr XbN.out) _ | refine Kept.setCell ?_ (.inr Xle.out) _ | refine Kept.setCell ?_ (.inr U8.out) _) | exact HK.out)) : p := h
theorem zb11 (h : p := by first | rfl | (simp [Zz, Z0] <;> rfl) | (simp [*, Zz, Z0] <;> rfl)) : p := h
theorem zb12 (h : p := by first | rfl | (simp; done) | (simp [*]; done)) : p := h
theorem zb13 (h : p := by kernel_rfl) : p := h
theorem zb14 (h : p := by (with_reducible repeat (first | apply Kd.XI | apply Kd.XJ | apply Kd.XR)); exact HO_7.out) : p := h
theorem zb15 (h : p := by (with_reducible repeat (first | apply Kd.MZ | apply Kd.Na | apply Kd.Wj)); exact HO_5.out) : p := h
theorem zb16 (h : p := by repeat (first | exact (Kd.Vp HR0.out HB.out) | (with_reducible refine Kd.Zh ?_ _) | (with_reducible refine Kd.Zi ?_ _) | (with_reducible refine Kd.ZJ ?_))) : p := h
theorem zb17 (h : p := by repeat (first | (with_reducible first | exact HI0.out | apply XA.alloc | apply XA.drewN | apply XA.drew | apply XA.BH) | exact HI0.out)) : p := h
theorem zb18 (h : p := by repeat (first | (with_reducible first | exact HK.out | apply Xl.XdI | apply M6 | apply Ml | apply DY) | exact HK.out)) : p := h
theorem zb19 (h : p := by (with_reducible repeat (first | apply Kd.XI | apply Kd.XJ | apply Kd.XR)); exact Va.out) : p := h
theorem zb20 (h : p := by first | exact Kd.Xau _ _ _ _ _ | exact Kd.Xtp _ _ _ _ _ | exact Kd.Xtq _ _ _ _ _ | exact Kd.Xtr _ _ _ _ _ | exact Kd.Xts _ _ _ _ _) : p := h
theorem zb21 (h : p := by first | (go_simp; done) | (go_simp; rfl)) : p := h
theorem zb22 (h : p := by (repeat (first | (with_reducible first | apply bn | apply bd | apply ba) | apply bf JF)); exact Zn.out) : p := h
theorem zb23 (h : p := by repeat (first | exact HR0.out | (with_reducible refine Kd.Zh ?_ _) | (with_reducible refine Kd.Zi ?_ _) | (with_reducible refine Kd.ZJ ?_))) : p := h
theorem zb24 (h : p := by repeat (first | exact Vk.refl _ | apply Vk.step)) : p := h
theorem zb25 (h : p := by repeat (first | exact (Kd.JX ML.out).2.2 | (with_reducible refine Kd.Zh ?_ _) | (with_reducible refine Kd.Zi ?_ _) | (with_reducible refine Kd.ZJ ?_))) : p := h
theorem zb26 (h : p := by repeat (first | exact (Kd.JX MM.out).2.2 | (with_reducible refine Kd.Zh ?_ _) | (with_reducible refine Kd.Zi ?_ _) | (with_reducible refine Kd.ZJ ?_))) : p := h
theorem zb27 (h : p := by repeat (first | exact (Kd.JX HO_5.out).2.2 | (with_reducible refine Kd.Zh ?_ _) | (with_reducible refine Kd.Zi ?_ _) | (with_reducible refine Kd.ZJ ?_))) : p := h
theorem zb28 (h : p := by (with_reducible repeat (first | apply Kd.MZ | apply Kd.Na | apply Kd.Wj)); exact ML.out) : p := h
theorem zb29 (h : p := by (with_reducible repeat (first | apply Kd.MZ | apply Kd.Na | apply Kd.Wj)); exact MM.out) : p := h
theorem zb30 (h : p := by (with_reducible repeat (first | apply bn | apply bd | apply ba)); exact X0.out) : p := h
theorem zb31 (h : p := by (with_reducible repeat (first | apply Kd.XI | apply Kd.XJ | apply Kd.XR)); exact G7.out) : p := h
theorem zb32 (h : p := by (with_reducible repeat (first | apply Kd.XI | apply Kd.XJ | apply Kd.XR)); exact Fu.out) : p := h
theorem zb33 (h : p := by (with_reducible repeat (first | apply Kd.XI | apply Kd.XJ | apply Kd.XR)); exact Fv.out) : p := h
theorem zb34 (h : p := by (with_reducible repeat (first | apply bn | apply bd | apply ba)); exact X3.out) : p := h
theorem zb35 (h : p := by (with_reducible repeat (first | apply bn | apply bd | apply ba)); exact XV.out) : p := h
theorem zb36 (h : p := by have := HZ0.out; simp; omega) : p := h
theorem zb37 (h : p := by have h_ := Ym.new (w.alloc (.cells #[.slice A0 l0.length c0, .slice A1 l1.length c1, .slice A2 l2.length c2, .int .i64 a3, .bool a4] 52)) (.slice none 0 0) (.slice none 0 0) (.slice none 0 0) 0 false; simpa using h_) : p := h
theorem zb38 (h : p := by repeat (first | (with_reducible first | exact HI0.out | apply XA.alloc | apply XA.drewN | apply XA.drew | apply XA.BH | refine XA.far ?_ JW.out _) | exact HI0.out)) : p := h
theorem zb39 (h : p := by repeat (first | (with_reducible first | exact HI0.out | apply XA.alloc | apply XA.drewN | apply XA.drew | apply XA.BH | refine XA.far ?_ NN.out _) | exact HI0.out)) : p := h
theorem zb40 (h : p := by repeat (first | (with_reducible first | exact HK.out | apply Xl.XdI | apply M6 | apply Ml | apply DY | refine NH ?_ XaM.out _) | exact HK.out)) : p := h
theorem zb41 (h : p := by repeat (first | (with_reducible first | exact HK.out | apply Xl.XdI | apply M6 | apply Ml | apply DY | refine NH ?_ Xld.out _) | exact HK.out)) : p := h
theorem zb42 (h : p := by (with_reducible repeat (first | apply bn | apply bd | apply ba)); exact p6 X0) : p := h
theorem zb43 (h : p := by (with_reducible repeat (first | apply Kd.Vz | apply Kd.V9 | apply Kd.DZ)); exact U3.out) : p := h
theorem zb44 (h : p := by (with_reducible repeat (first | apply Kd.XI | apply Kd.XJ | apply Kd.XR)); exact Nh.out) : p := h
theorem zb45 (h : p := by (with_reducible repeat (first | apply Kd.VH | apply Kd.VI | apply Kd.Dp)); exact Vw.out) : p := h
theorem zb46 (h : p := by (with_reducible repeat (first | apply Kd.VH | apply Kd.VI | apply Kd.Dp)); exact Vx.out) : p := h
theorem zb47 (h : p := by repeat (first | (with_reducible first | exact HB.out | apply Xd | apply XF | apply Yt | refine Xc ?_ Xlf.out | refine Xc ?_ Xp8.out) | exact HB.out)) : p := h
theorem zb48 (h : p := by (with_reducible repeat (first | apply WB | apply WC | apply Lt)); exact HO_5.out) : p := h
theorem zb49 (h : p := by (with_reducible repeat (first | apply Kd.MZ | apply Kd.Na | apply Kd.Wj)); exact HO_3.out) : p := h
theorem zb50 (h : p := by repeat (first | (with_reducible first | exact HB.out | apply Xd | apply XF | apply Yt | refine Xc ?_ (XA.ge HI0.out)) | exact HB.out)) : p := h
theorem zb51 (h : p := by (with_reducible repeat (first | apply bn | apply bd | apply ba)); refine X9 (cs := #[.int .i64 (wrap64 (1 + Y1)), .int .i64 (wrap64 (1 + ZC)), .int .i64 0, .int .i64 0, .int .i64 0, .int .i64 0, .int .i64 Jr, .int .i64 0]) ?_ 2 _ rfl; (with_reducible repeat (first | apply bn | apply bd | apply ba)); exact Yq.out) : p := h
theorem zb52 (h : p := by repeat (first | exact (Kd.Xi FR.out).2.2 | (with_reducible refine Kd.Zh ?_ _) | (with_reducible refine Kd.Zi ?_ _) | (with_reducible refine Kd.ZJ ?_))) : p := h
theorem zb53 (h : p := by repeat (first | exact (Kd.Xi Fu.out).2.2 | (with_reducible refine Kd.Zh ?_ _) | (with_reducible refine Kd.Zi ?_ _) | (with_reducible refine Kd.ZJ ?_))) : p := h
theorem zb54 (h : p := by repeat (first | exact (Kd.Xi FT.out).2.2 | (with_reducible refine Kd.Zh ?_ _) | (with_reducible refine Kd.Zi ?_ _) | (with_reducible refine Kd.ZJ ?_))) : p := h
theorem zb55 (h : p := by repeat (first | exact (Kd.Xi Fv.out).2.2 | (with_reducible refine Kd.Zh ?_ _) | (with_reducible refine Kd.Zi ?_ _) | (with_reducible refine Kd.ZJ ?_))) : p := h
theorem zb56 (h : p := by exact (Zm.c8 (show Kd.M k41 _ _ _ (⟨ZY, Jl, YH, Yw, Z4, ZW, Jo, Js⟩ : S41) [.int .i64 ZY, .int .i64 Jl, .int .i64 YH, .int .i64 Yw, .int .i64 Z4, .int .i64 ZW, .int .i64 Jo, .int .i64 Js] from (WE _ _ _ (⟨ZY, Jl, YH, Yw, Z4, ZW, Jo, Js⟩ : S41) )) (Zm.none _ _))) : p := h
theorem zb57 (h : p := by (with_reducible repeat (first | apply Kd.XI | apply Kd.XJ | apply Kd.XR)); exact SA.out) : p := h
theorem zb58 (h : p := by (with_reducible repeat (first | apply Kd.XI | apply Kd.XJ | apply Kd.XR)); exact HO_5.out) : p := h
theorem zb59 (h : p := by first | rfl | (simp; done) | (simp [hw1]; done) | go_num) : p := h
theorem zb60 (h : p := by simp [results, Try.results127, go_sem, *]) : p := h
theorem zb61 (h : p := by have := HK1.out; omega) : p := h
theorem zb62 (h : p := by (with_reducible repeat (first | apply bn | apply bd | apply ba)); exact Vs.out) : p := h
theorem zb63 (h : p := by (with_reducible repeat (first | apply bn | apply bd | apply ba)); exact Yv.out) : p := h
theorem zb64 (h : p := by (with_reducible repeat (first | apply Kd.XI | apply Kd.XJ | apply Kd.XR)); exact Kd.XN Fu.out (fun _ hk => trivial)) : p := h
theorem zb65 (h : p := by (with_reducible repeat (first | apply Kd.XI | apply Kd.XJ | apply Kd.XR)); exact Kd.XN Fv.out (fun _ hk => trivial)) : p := h
theorem zb66 (h : p := by (with_reducible repeat (first | apply Kd.XI | apply Kd.XJ | apply Kd.XR)); exact T9.out) : p := h
theorem zb67 (h : p := by (with_reducible repeat (first | apply Kd.XI | apply Kd.XJ | apply Kd.XR)); exact Nz.out) : p := h
theorem zb68 (h : p := by (with_reducible repeat (first | apply Kd.MZ | apply Kd.Na | apply Kd.Wj)); exact SB.out) : p := h
theorem zb69 (h : p := by rw [hg]; exact (Xq (by repeat (first | (with_reducible first | exact HBW.out | apply Xd | apply XF | apply Yt) | exact HBW.out)))) : p := h
theorem zb70 (h : p := by first | omega | exact Nat.le_refl _) : p := h
theorem zb71 (h : p := by repeat (first | (with_reducible first | exact HB.out | apply Xd | apply XF | apply Yt | refine Xc ?_ Xp9.out) | exact HB.out)) : p := h
theorem zb72 (h : p := by repeat (first | exact (Kd.Vp TA.out HB.out) | (with_reducible refine Kd.Zh ?_ _) | (with_reducible refine Kd.Zi ?_ _) | (with_reducible refine Kd.ZJ ?_))) : p := h
theorem zb73 (h : p := by repeat (first | exact (Kd.Xi G7.out).2.2 | (with_reducible refine Kd.Zh ?_ _) | (with_reducible refine Kd.Zi ?_ _) | (with_reducible refine Kd.ZJ ?_))) : p := h
theorem zb74 (h : p := by repeat (first | exact (Kd.Xi Nz.out).2.2 | (with_reducible refine Kd.Zh ?_ _) | (with_reducible refine Kd.Zi ?_ _) | (with_reducible refine Kd.ZJ ?_))) : p := h
theorem zb75 (h : p := by repeat (first | exact (Kd.Xi Va.out).2.2 | (with_reducible refine Kd.Zh ?_ _) | (with_reducible refine Kd.Zi ?_ _) | (with_reducible refine Kd.ZJ ?_))) : p := h
theorem zb76 (h : p := by repeat (first | exact (Kd.JX SB.out).2.2 | (with_reducible refine Kd.Zh ?_ _) | (with_reducible refine Kd.Zi ?_ _) | (with_reducible refine Kd.ZJ ?_))) : p := h
theorem zb77 (h : p := by repeat (first | exact (Kd.Xi HO_7.out).2.2 | (with_reducible refine Kd.Zh ?_ _) | (with_reducible refine Kd.Zi ?_ _) | (with_reducible refine Kd.ZJ ?_))) : p := h
theorem zb78 (h : p := by simp only [Lu, Act.put, List.setIfInBounds_toArray, List.set_cons_zero, List.set_cons_succ]) : p := h
theorem zb79 (h : p := by (with_reducible repeat (first | refine Zq ?_ _ | refine Yd ?_ | refine XY ?_ _)); exact Fz.out) : p := h
theorem zb80 (h : p := by repeat (first | (with_reducible exact HB0.out) | (with_reducible refine Xd ?_ _) | (with_reducible refine XF ?_ _) | (with_reducible refine XX ?_) | (refine Xc ?_ (by have := HZ0.out; omega)))) : p := h
theorem zb81 (h : p := by (with_reducible repeat (first | apply Kd.XI | apply Kd.XJ | apply Kd.XR)); exact TB.out) : p := h
theorem zb82 (h : p := by (with_reducible repeat (first | apply Kd.XI | apply Kd.XJ | apply Kd.XR)); exact U9.out) : p := h
theorem zb83 (h : p := by (with_reducible repeat (first | apply Kd.XI | apply Kd.XJ | apply Kd.XR)); exact SC.out) : p := h
theorem zb84 (h : p := by (with_reducible repeat (first | apply Kd.XI | apply Kd.XJ | apply Kd.XR)); exact HO_6.out) : p := h
theorem zb85 (h : p := by first | omega | (simp; done) | (simp; omega)) : p := h
theorem zb86 (h : p := by first | rfl | (simp; done) | (simp only [← hji6] <;> (first | rfl | simp)) | (simp [*]; done)) : p := h
theorem zb87 (h : p := by (with_reducible repeat (first | apply WB | apply WC | apply Lt)); exact Pg.out) : p := h
theorem zb88 (h : p := by first | rfl | (simp; done) | (rw [MN]; done) | (simp only [← hji4] <;> (first | rfl | simp)) | (simp [*]; done)) : p := h
theorem zb89 (h : p := by have := HLT.out; omega) : p := h
theorem zb90 (h : p := by repeat (first | (with_reducible first | exact HB.out | apply Xd | apply XF | apply Yt | refine Xc ?_ Xlf.out) | exact HB.out)) : p := h
theorem zb91 (h : p := by repeat (first | (with_reducible first | exact HB.out | apply Xd | apply XF | apply Yt | refine Xc ?_ Xlg.out) | exact HB.out)) : p := h
theorem zb92 (h : p := by repeat (first | (with_reducible first | exact HB.out | apply Xd | apply XF | apply Yt | refine Xc ?_ XpA.out) | exact HB.out)) : p := h
theorem zb93 (h : p := by repeat (first | exact (Kd.Vp XbO.out HB.out) | (with_reducible refine Kd.Zh ?_ _) | (with_reducible refine Kd.Zi ?_ _) | (with_reducible refine Kd.ZJ ?_))) : p := h
theorem zb94 (h : p := by (with_reducible repeat (first | apply bn | apply bd | apply ba)); exact p8 Yq) : p := h
theorem zb95 (h : p := by (with_reducible repeat (first | apply Kd.XI | apply Kd.XJ | apply Kd.XR)); exact Lh.out) : p := h
theorem zb96 (h : p := by (with_reducible repeat (first | apply Kd.XI | apply Kd.XJ | apply Kd.XR)); exact Li.out) : p := h
theorem zb97 (h : p := by (with_reducible repeat (first | apply Kd.XI | apply Kd.XJ | apply Kd.XR)); exact FR.out) : p := h
theorem zb98 (h : p := by (with_reducible repeat (first | apply Kd.XI | apply Kd.XJ | apply Kd.XR)); exact FT.out) : p := h
theorem zb99 (h : p := by (with_reducible repeat (first | apply Kd.XI | apply Kd.XJ | apply Kd.XR)); exact Oe.out) : p := h
theorem zb100 (h : p := by first | (simp; omega) | omega) : p := h
theorem zb101 (h : p := by repeat (first | (with_reducible first | exact HB.out | apply wa | apply wn | apply wd | refine Xc ?_ (XA.ge HI0.out)) | exact HB.out)) : p := h
theorem zb102 (h : p := by simp [results, Try.results134, go_sem, *]) : p := h
theorem zb103 (h : p := by (with_reducible repeat (first | apply Kd.Vz | apply Kd.V9 | apply Kd.DZ)); exact Kd.Pz Nk.out (fun _ hk => hk.2)) : p := h
theorem zb104 (h : p := by (with_reducible repeat (first | apply Kd.Vz | apply Kd.V9 | apply Kd.DZ)); exact Kd.Pz U3.out (fun _ hk => hk.2)) : p := h
theorem zb105 (h : p := by (with_reducible repeat (first | apply Kd.VH | apply Kd.VI | apply Kd.Dp)); exact Kd.VJ Vw.out (fun _ hk => ⟨hk.1.1, ⟨hk.1.2.1, ⟨hk.2, ⟨hk.1.2.2.1, ⟨hk.1.2.2.2.1, ⟨hk.1.2.2.2.2.1, hk.1.2.2.2.2.2⟩⟩⟩⟩⟩⟩)) : p := h
theorem zb106 (h : p := by (with_reducible repeat (first | apply Kd.VH | apply Kd.VI | apply Kd.Dp)); exact Kd.VJ Vx.out (fun _ hk => ⟨hk.1.1, ⟨hk.1.2.1, ⟨hk.2, ⟨hk.1.2.2.1, ⟨hk.1.2.2.2.1, ⟨hk.1.2.2.2.2.1, hk.1.2.2.2.2.2⟩⟩⟩⟩⟩⟩)) : p := h
theorem zb107 (h : p := by show (0 : Int) ≤ 0 ∧ (0 : Int) ≤ (L.length : Int); omega) : p := h
theorem zb108 (h : p := by (with_reducible repeat (first | apply bn | apply bd | apply ba)); exact ZI.out) : p := h
theorem zb109 (h : p := by (with_reducible repeat (first | apply bn | apply bd | apply ba)); exact Yf.out) : p := h
theorem zb110 (h : p := by (with_reducible repeat (first | refine Zq ?_ _ | refine Yd ?_ | refine XY ?_ _)); exact Gh.out) : p := h
theorem zb111 (h : p := by have h_ := Ym.new (w.alloc (.cells #[.slice A0 l0.length c0, .slice A1 l1.length c1, .slice A2 l2.length c2, .int .i64 a3, .bool false] 52)) (.slice none 0 0) (.slice none 0 0) (.slice none 0 0) 0 false; simpa using h_) : p := h
theorem zb112 (h : p := by repeat (first | (with_reducible first | exact HK.out | apply Kept.alloc | apply Kept.drewN | apply Kept.drew | refine Kept.setCell ?_ (.inr XbN.out) _ | refine Kept.setCell ?_ (.inr Xle.out) _) | exact HK.out)) : p := h
theorem zb113 (h : p := by have := HI.out; omega) : p := h
theorem zb114 (h : p := by (with_reducible repeat (first | apply Kd.XI | apply Kd.XJ | apply Kd.XR)); exact Xe2.out) : p := h
theorem zb115 (h : p := by (with_reducible repeat (first | apply Kd.XI | apply Kd.XJ | apply Kd.XR)); exact Xe3.out) : p := h
theorem zb116 (h : p := by (with_reducible repeat (first | apply Kd.XI | apply Kd.XJ | apply Kd.XR)); exact Xe4.out) : p := h
theorem zb117 (h : p := by (with_reducible repeat (first | apply Kd.XI | apply Kd.XJ | apply Kd.XR)); exact Xe5.out) : p := h
theorem zb118 (h : p := by (with_reducible repeat (first | apply Kd.XI | apply Kd.XJ | apply Kd.XR)); exact HO_3.out) : p := h
theorem zb119 (h : p := by first | exact (hB1.alloc hB1.size _).setCell (p := ⟨w.heap.size + 1, 0, none⟩) (by simp) _ | exact (hB1.setCell (p := ⟨w.heap.size + 1, 0, none⟩) (by simp) _).alloc (by simp; exact hB1.size) _) : p := h
theorem zb120 (h : p := by simp [results, Try.results107, go_sem, *]) : p := h
theorem zb121 (h : p := by exact (Zm.none _ _)) : p := h
theorem zb122 (h : p := by exact (Kd.JX ML.out).2.1) : p := h
theorem zb123 (h : p := by exact (Kd.JX MM.out).2.1) : p := h
theorem zb124 (h : p := by (with_reducible repeat (first | apply Kd.XI | apply Kd.XJ | apply Kd.XR)); exact Kd.XN U9.out (fun _ hk => ⟨hk.1.1, ⟨hk.1.2.1, ⟨hk.2, hk.1.2.2⟩⟩⟩)) : p := h
theorem zb125 (h : p := by (with_reducible repeat (first | apply Kd.XI | apply Kd.XJ | apply Kd.XR)); exact Kd.XN Va.out (fun _ hk => ⟨hk.1.1, ⟨hk.2, ⟨hk.1.2.1, hk.1.2.2⟩⟩⟩)) : p := h
theorem zb126 (h : p := by repeat (first | (with_reducible first | exact HK.out | apply Kept.alloc | apply Kept.drewN | apply Kept.drew | refine Kept.setCell ?_ (.inr XbN.out) _) | exact HK.out)) : p := h
theorem zb127 (h : p := by have := HJ4.out; have := HK2.out; have := HK3.out; omega) : p := h
theorem zb128 (h : p := by simp [results, Try.results155, go_sem, *]) : p := h
theorem zb129 (h : p := by simp [results, Try.results133, go_sem, *]) : p := h
theorem zb130 (h : p := by simp [results, Try.results132, go_sem, *]) : p := h
theorem zb131 (h : p := by repeat (first | exact (Kd.Vp Xlh.out HB.out) | (with_reducible refine Kd.Zh ?_ _) | (with_reducible refine Kd.Zi ?_ _) | (with_reducible refine Kd.ZJ ?_))) : p := h
theorem zb132 (h : p := by repeat (first | exact (Kd.Vp XbP.out HB.out) | (with_reducible refine Kd.Zh ?_ _) | (with_reducible refine Kd.Zi ?_ _) | (with_reducible refine Kd.ZJ ?_))) : p := h
theorem zb133 (h : p := by repeat (first | exact (Kd.Xi TC.out).2.2 | (with_reducible refine Kd.Zh ?_ _) | (with_reducible refine Kd.Zi ?_ _) | (with_reducible refine Kd.ZJ ?_))) : p := h
theorem zb134 (h : p := by first | exact ((KeepsOthers.alloc _ _).trans (KeepsOthers.setCell _ _ _)).from _ | exact ((KeepsOthers.setCell _ _ _).trans (KeepsOthers.alloc _ _)).from _) : p := h
theorem zb135 (h : p := by simp [Value.ownBlock]) : p := h
theorem zb136 (h : p := by repeat (first | exact (Kd.JX HO_3.out).2.2 | (with_reducible refine Kd.Zh ?_ _) | (with_reducible refine Kd.Zi ?_ _) | (with_reducible refine Kd.ZJ ?_))) : p := h
theorem zb137 (h : p := by repeat (first | exact (VK Pg.out).2.2 | (with_reducible refine Kd.Zh ?_ _) | (with_reducible refine Kd.Zi ?_ _) | (with_reducible refine Kd.ZJ ?_))) : p := h
theorem zb138 (h : p := by rw [HN.out]; rfl) : p := h
theorem zb139 (h : p := by exact (fun _ _ => trivial)) : p := h
theorem zb140 (h : p := by repeat (first | (with_reducible first | exact HK.out | apply Kept.alloc | apply Kept.drewN | apply Kept.drew) | exact HK.out)) : p := h
theorem zb141 (h : p := by (with_reducible repeat (first | apply WB | apply WC | apply Lt)); exact Xg4 Pg.out (fun _ hk => trivial)) : p := h
theorem zb142 (h : p := by have := HZ0.out; first | (simp; done) | (simp; omega) | omega) : p := h
theorem zb143 (h : p := by simp [results, Try.results139, go_sem, *]) : p := h
theorem zb144 (h : p := by exact (Kd.JX HO_5.out).2.1) : p := h
theorem zb145 (h : p := by (with_reducible repeat (first | refine Zq ?_ _ | refine Yd ?_ | refine XY ?_ _)); exact MO.out) : p := h
theorem zb146 (h : p := by (with_reducible repeat (first | refine Zq ?_ _ | refine Yd ?_ | refine XY ?_ _)); exact FU.out) : p := h
theorem zb147 (h : p := by (try simp only [List.map_toArray, List.map_cons, List.map_nil]); first | done | rfl) : p := h
theorem zb148 (h : p := by exact (fun k_ hk => ⟨(.inr (Nat.le_trans (by first | exact HK.out.1 | exact (show Kept w _ (fun k_ => P0_2_ k_) from zb10).1) hk)), Kd.fresh' (Kd.J2 zb19) k_ hk, Kd.fresh' (Kd.J2 zb82) k_ hk, Kd.Xg5 (g := XO) (o := .cells #[.int .i64 ZY, .int .i64 Jl, .int .i64 YH, .int .i64 Yw, .int .i64 Z4, .int .i64 ZW, .int .i64 Jo, .int .i64 Js] 41 (0, 0)) zb35 k_ hk⟩)) : p := h
theorem zb149 (h : p := by have := HJ2.out; first | omega | exact Nat.le_refl _) : p := h
theorem zb150 (h : p := by rw [hg]; exact (Xq zb1)) : p := h
theorem zb151 (h : p := by simp; omega) : p := h
theorem zb152 (h : p := by rw [hg]; exact (GI (w := w) (g := g) (row := none) zb18)) : p := h
theorem zb153 (h : p := by have := HZ0.out; omega) : p := h
theorem zb154 (h : p := by have := HK1.out; first | omega | exact Nat.le_refl _) : p := h
theorem zb155 (h : p := by as_aux_lemma => unfold Func.isWrapper; first | (rw [if_pos (by decide +kernel)]; kernel_rfl) | (rw [if_neg (by decide +kernel)]; exact ⟨rfl, rfl⟩)) : p := h
theorem zb156 (h : p := by rw [hg]; exact (Xq zb5)) : p := h
theorem zb157 (h : p := by rw [hg]; exact (GI (w := w) (g := g) (row := none) zb40)) : p := h
theorem zb158 (h : p := by repeat (first | exact (Kd.Vp TA.out zb6) | (with_reducible refine Kd.Zh ?_ _) | (with_reducible refine Kd.Zi ?_ _) | (with_reducible refine Kd.ZJ ?_))) : p := h
theorem zb159 (h : p := by repeat (first | exact (Kd.Vp XbO.out zb6) | (with_reducible refine Kd.Zh ?_ _) | (with_reducible refine Kd.Zi ?_ _) | (with_reducible refine Kd.ZJ ?_))) : p := h
theorem zb160 (h : p := by repeat (first | exact (Kd.Vp XbP.out zb6) | (with_reducible refine Kd.Zh ?_ _) | (with_reducible refine Kd.Zi ?_ _) | (with_reducible refine Kd.ZJ ?_))) : p := h
theorem zb161 (h : p := by as_aux_lemma => kernel_rfl) : p := h
theorem zb162 (h : p := by exact (fun k_ hk => Kd.fresh' (Kd.XdJ zb15) k_ hk)) : p := h
theorem zb163 (h : p := by first | exact HK.out.1 | exact (show Kept w _ (fun k_ => P0_2_ k_) from zb10).1) : p := h
