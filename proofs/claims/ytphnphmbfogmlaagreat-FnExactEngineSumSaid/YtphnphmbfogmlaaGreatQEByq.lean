import Derived.WalkKit
/- Blocks of tactics that stand often, under short names; a block is run where its name stands. -/
variable {p : Prop}
theorem zb0 (h : p := by repeat (first | (with_reducible first | exact HB.out | apply wa | apply wn | apply wd | refine ws ‹_› ?_) | exact HB.out)) : p := h
theorem zb1 (h : p := by repeat (first | (with_reducible first | exact HB.out | apply wa | apply wn | apply wd) | exact HB.out)) : p := h
theorem zb2 (h : p := by (try simp only [List.map_toArray, List.map_cons, List.map_nil]); first | done | rfl | (simp only [List.length_drop, List.length_take]; rfl)) : p := h
theorem zb3 (h : p := by first | (with_reducible assumption) | assumption) : p := h
theorem zb4 (h : p := by first | rfl | (simp [F5, F6] <;> rfl) | (simp [*, F5, F6] <;> rfl)) : p := h
theorem zb5 (h : p := by repeat (first | exact (Kd.Xr VU.out HB.out) | (with_reducible refine Kd.YC ?_ _) | (with_reducible refine Kd.YE ?_ _) | (with_reducible refine Kd.Zi ?_))) : p := h
theorem zb6 (h : p := by first | rfl | (simp; done) | (simp [*]; done)) : p := h
theorem zb7 (h : p := by repeat (first | exact (Kd.Xr U3.out HB.out) | (with_reducible refine Kd.YC ?_ _) | (with_reducible refine Kd.YE ?_ _) | (with_reducible refine Kd.Zi ?_))) : p := h
theorem zb8 (h : p := by repeat (first | exact (Kd.Xr VC.out HB.out) | (with_reducible refine Kd.YC ?_ _) | (with_reducible refine Kd.YE ?_ _) | (with_reducible refine Kd.Zi ?_))) : p := h
theorem zb9 (h : p := by kernel_rfl) : p := h
theorem zb10 (h : p := by first | (go_simp; done) | (go_simp; rfl)) : p := h
theorem zb11 (h : p := by repeat (first | exact Jc.refl _ | apply Jc.step)) : p := h
theorem zb12 (h : p := by first | exact Kd.RJ (Kd.CE HO_6.out (fun _ hk => hk.2)) | (rw [add_block]; exact Kd.RJ (Kd.CE HO_6.out (fun _ hk => hk.2))) | (show (Addr.add _ _).block ≠ _; rw [add_block]; exact Kd.RJ (Kd.CE HO_6.out (fun _ hk => hk.2))) | (dsimp only; exact Kd.RJ (Kd.CE HO_6.out (fun _ hk => hk.2)))) : p := h
theorem zb13 (h : p := by (with_reducible repeat (first | apply Kd.Yo | apply Kd.Yp | apply Kd.Y4)); exact (Kd.Ze (Kd.Yx (p := ⟨Jk, 7, none⟩) (Kd.Yx (p := ⟨Jk, 6, none⟩) (Kd.Yx (p := ⟨Jk, 5, none⟩) (Kd.Yx (p := ⟨Jk, 4, none⟩) (Kd.Yx (p := ⟨Jk, 3, none⟩) (Kd.Yx (p := ⟨Jk, 2, none⟩) (Kd.Yx (p := ⟨Jk, 1, none⟩) (Kd.Yx (p := ⟨Jk, 0, none⟩) (Kd.JQ HO_6.out YK.out (by decide)) (fun _ hk => hk.2) (.int .i64 ((Xa l1 Xg).f0))) (fun _ hk => hk.2) (.int .i64 ((Xa l1 Xg).f1))) (fun _ hk => hk.2) (.int .i64 ((Xa l1 Xg).f2))) (fun _ hk => hk.2) (.int .i64 ((Xa l1 Xg).f3))) (fun _ hk => hk.2) (.int .i64 ((Xa l1 Xg).f4))) (fun _ hk => hk.2) (.int .i64 ((Xa l1 Xg).f5))) (fun _ hk => hk.2) (.int .i64 ((Xa l1 Xg).f6))) (fun _ hk => hk.2) (.int .i64 ((Xa l1 Xg).f7))) (fun _ h_ => h_.1))) : p := h
theorem zb14 (h : p := by repeat (first | (with_reducible first | exact HB.out | apply X0 | apply Yh | apply Vm | refine Xz ?_ Xju.out | refine Xz ?_ XpB.out | refine Xz ?_ Xwh.out | refine Xz ?_ XzH.out) | exact HB.out)) : p := h
theorem zb15 (h : p := by repeat (first | exact (Kd.Xr HR0.out HB.out) | (with_reducible refine Kd.YC ?_ _) | (with_reducible refine Kd.YE ?_ _) | (with_reducible refine Kd.Zi ?_))) : p := h
theorem zb16 (h : p := by repeat (first | exact HR0.out | (with_reducible refine Kd.YC ?_ _) | (with_reducible refine Kd.YE ?_ _) | (with_reducible refine Kd.Zi ?_))) : p := h
theorem zb17 (h : p := by (with_reducible repeat (first | refine YY ?_ _ | refine XL ?_ | refine YG ?_ _)); exact Vi.out) : p := h
theorem zb18 (h : p := by have := HZ0.out; simp; omega) : p := h
theorem zb19 (h : p := by repeat (first | exact (Kd.Xr Xjv.out HB.out) | (with_reducible refine Kd.YC ?_ _) | (with_reducible refine Kd.YE ?_ _) | (with_reducible refine Kd.Zi ?_))) : p := h
theorem zb20 (h : p := by (with_reducible repeat (first | apply Kd.Yo | apply Kd.Yp | apply Kd.Y4)); exact HO_6.out) : p := h
theorem zb21 (h : p := by (with_reducible repeat (first | apply Kd.XU | apply Kd.XX | apply Kd.Yj)); exact HO_3.out) : p := h
theorem zb22 (h : p := by repeat (first | (with_reducible exact S9.out) | (with_reducible refine Kd.YC ?_ _) | (with_reducible refine Kd.YE ?_ _) | (with_reducible refine Kd.Zi ?_) | exact S9.out)) : p := h
theorem zb23 (h : p := by simp only [Wh, Act.put, List.setIfInBounds_toArray, List.set_cons_zero, List.set_cons_succ]) : p := h
theorem zb24 (h : p := by (with_reducible repeat (first | refine YY ?_ _ | refine XL ?_ | refine YG ?_ _)); exact J8.out) : p := h
theorem zb25 (h : p := by repeat (first | (with_reducible first | exact HB.out | apply X0 | apply Yh | apply Vm) | exact HB.out)) : p := h
theorem zb26 (h : p := by (with_reducible repeat (first | apply Kd.XU | apply Kd.XX | apply Kd.Yj)); exact HO_7.out) : p := h
theorem zb27 (h : p := by repeat (first | (with_reducible first | exact HB.out | apply X0 | apply Yh | apply Vm | refine Xz ?_ Xju.out | refine Xz ?_ XpB.out | refine Xz ?_ Xwh.out) | exact HB.out)) : p := h
theorem zb28 (h : p := by repeat (first | (with_reducible exact HB0.out) | (with_reducible refine X0 ?_ _) | (with_reducible refine Yh ?_ _) | (with_reducible refine X6 ?_) | (refine Xz ?_ (by have := HZ0.out; omega)))) : p := h
theorem zb29 (h : p := by (with_reducible repeat (first | apply Kd.Yo | apply Kd.Yp | apply Kd.Y4)); exact Nb.out) : p := h
theorem zb30 (h : p := by (with_reducible repeat (first | apply Kd.Yo | apply Kd.Yp | apply Kd.Y4)); exact Nc.out) : p := h
theorem zb31 (h : p := by (with_reducible repeat (first | apply Kd.Yo | apply Kd.Yp | apply Kd.Y4)); exact Nf.out) : p := h
theorem zb32 (h : p := by (with_reducible repeat (first | apply Kd.Yo | apply Kd.Yp | apply Kd.Y4)); exact Ng.out) : p := h
theorem zb33 (h : p := by repeat (first | exact (Kd.Xr XzI.out HB.out) | (with_reducible refine Kd.YC ?_ _) | (with_reducible refine Kd.YE ?_ _) | (with_reducible refine Kd.Zi ?_))) : p := h
theorem zb34 (h : p := by first | rfl | (simp; done) | (rw [Vu]; done) | (simp only [← hji4] <;> (first | rfl | simp)) | (simp [*]; done)) : p := h
theorem zb35 (h : p := by (with_reducible repeat (first | apply Kd.XU | apply Kd.XX | apply Kd.Yj)); exact HO_13.out) : p := h
theorem zb36 (h : p := by repeat (first | exact (Kd.Xr XzJ.out HB.out) | (with_reducible refine Kd.YC ?_ _) | (with_reducible refine Kd.YE ?_ _) | (with_reducible refine Kd.Zi ?_))) : p := h
theorem zb37 (h : p := by have := HK1.out; omega) : p := h
theorem zb38 (h : p := by (with_reducible repeat (first | apply bn | apply bd | apply ba)); exact DX.out) : p := h
theorem zb39 (h : p := by first | omega | (simp; done) | (simp; omega)) : p := h
theorem zb40 (h : p := by (with_reducible repeat (first | apply Kd.XU | apply Kd.XX | apply Kd.Yj)); exact Nh.out) : p := h
theorem zb41 (h : p := by (with_reducible repeat (first | apply Kd.XU | apply Kd.XX | apply Kd.Yj)); exact Nk.out) : p := h
theorem zb42 (h : p := by (with_reducible repeat (first | apply Kd.Yo | apply Kd.Yp | apply Kd.Y4)); exact HO_3.out) : p := h
theorem zb43 (h : p := by first | rfl | (simp; done) | (simp [hw1]; done) | go_num) : p := h
theorem zb44 (h : p := by first | exact (hB1.alloc hB1.size _).setCell (p := ⟨w.heap.size + 1, 0, none⟩) (by simp) _ | exact (hB1.setCell (p := ⟨w.heap.size + 1, 0, none⟩) (by simp) _).alloc (by simp; exact hB1.size) _) : p := h
theorem zb45 (h : p := by first | exact hgm4 | exact hA4) : p := h
theorem zb46 (h : p := by (with_reducible repeat (first | apply Kd.Yo | apply Kd.Yp | apply Kd.Y4)); exact (Kd.Ze (Kd.Yx (p := ⟨V4, 4, none⟩) (Kd.Yx (p := ⟨V4, 3, none⟩) (Kd.Yx (p := ⟨V4, 2, none⟩) (Kd.Yx (p := ⟨V4, 1, none⟩) (Kd.Yx (p := ⟨V4, 0, none⟩) (Kd.JQ NQ.out JW.out (by decide)) (fun _ hk => hk.2) (.slice OI WL.length EA)) (fun _ hk => hk.2) (.slice Xc5 WM.length Xax)) (fun _ hk => hk.2) (.slice Xff KO.length Xc6)) (fun _ hk => hk.2) (.int .i64 Lt)) (fun _ hk => hk.2) (.bool Lu)) (fun _ h_ => h_.1))) : p := h
theorem zb47 (h : p := by (with_reducible repeat (first | apply Kd.Yo | apply Kd.Yp | apply Kd.Y4)); exact (Kd.Ze (Kd.Yx (p := ⟨V4, 4, none⟩) (Kd.Yx (p := ⟨V4, 3, none⟩) (Kd.Yx (p := ⟨V4, 2, none⟩) (Kd.Yx (p := ⟨V4, 1, none⟩) (Kd.Yx (p := ⟨V4, 0, none⟩) (Kd.JQ NR.out JW.out (by decide)) (fun _ hk => hk.2) (.slice OI WL.length EA)) (fun _ hk => hk.2) (.slice Xc5 WM.length Xax)) (fun _ hk => hk.2) (.slice Xff KO.length Xc6)) (fun _ hk => hk.2) (.int .i64 Lt)) (fun _ hk => hk.2) (.bool Lu)) (fun _ h_ => h_.1))) : p := h
theorem zb48 (h : p := by (with_reducible repeat (first | apply Kd.Yo | apply Kd.Yp | apply Kd.Y4)); exact (Kd.Ze (Kd.Yx (p := ⟨Vv, 4, none⟩) (Kd.Yx (p := ⟨Vv, 3, none⟩) (Kd.Yx (p := ⟨Vv, 2, none⟩) (Kd.Yx (p := ⟨Vv, 1, none⟩) (Kd.Yx (p := ⟨Vv, 0, none⟩) (Kd.JQ OJ.out JH.out (by decide)) (fun _ hk => hk.2) (.slice EB Ux.length Cr)) (fun _ hk => hk.2) (.slice MW Uy.length U5)) (fun _ hk => hk.2) (.slice Xay MF.length OL)) (fun _ hk => hk.2) (.int .i64 NS)) (fun _ hk => hk.2) (.bool NT)) (fun _ h_ => h_.1))) : p := h
theorem zb49 (h : p := by (with_reducible repeat (first | apply Kd.Yo | apply Kd.Yp | apply Kd.Y4)); exact (Kd.Ze (Kd.Yx (p := ⟨Vv, 4, none⟩) (Kd.Yx (p := ⟨Vv, 3, none⟩) (Kd.Yx (p := ⟨Vv, 2, none⟩) (Kd.Yx (p := ⟨Vv, 1, none⟩) (Kd.Yx (p := ⟨Vv, 0, none⟩) (Kd.JQ OM.out JH.out (by decide)) (fun _ hk => hk.2) (.slice EB Ux.length Cr)) (fun _ hk => hk.2) (.slice MW Uy.length U5)) (fun _ hk => hk.2) (.slice Xay MF.length OL)) (fun _ hk => hk.2) (.int .i64 NS)) (fun _ hk => hk.2) (.bool NT)) (fun _ h_ => h_.1))) : p := h
theorem zb50 (h : p := by (with_reducible repeat (first | apply Kd.Yo | apply Kd.Yp | apply Kd.Y4)); exact (Kd.Ze (Kd.Yx (p := ⟨V5, 4, none⟩) (Kd.Yx (p := ⟨V5, 3, none⟩) (Kd.Yx (p := ⟨V5, 2, none⟩) (Kd.Yx (p := ⟨V5, 1, none⟩) (Kd.Yx (p := ⟨V5, 0, none⟩) (Kd.JQ NU.out JX.out (by decide)) (fun _ hk => hk.2) (.slice MW WN.length U5)) (fun _ hk => hk.2) (.slice VG WO.length VB)) (fun _ hk => hk.2) (.slice Xfg KP.length Xc7)) (fun _ hk => hk.2) (.int .i64 Lv)) (fun _ hk => hk.2) (.bool Lx)) (fun _ h_ => h_.1))) : p := h
theorem zb51 (h : p := by (with_reducible repeat (first | apply Kd.Yo | apply Kd.Yp | apply Kd.Y4)); exact (Kd.Ze (Kd.Yx (p := ⟨V5, 4, none⟩) (Kd.Yx (p := ⟨V5, 3, none⟩) (Kd.Yx (p := ⟨V5, 2, none⟩) (Kd.Yx (p := ⟨V5, 1, none⟩) (Kd.Yx (p := ⟨V5, 0, none⟩) (Kd.JQ NV.out JX.out (by decide)) (fun _ hk => hk.2) (.slice MW WN.length U5)) (fun _ hk => hk.2) (.slice VG WO.length VB)) (fun _ hk => hk.2) (.slice Xfg KP.length Xc7)) (fun _ hk => hk.2) (.int .i64 Lv)) (fun _ hk => hk.2) (.bool Lx)) (fun _ h_ => h_.1))) : p := h
theorem zb52 (h : p := by repeat (first | (with_reducible exact FD.out) | (with_reducible refine Kd.YC ?_ _) | (with_reducible refine Kd.YE ?_ _) | (with_reducible refine Kd.Zi ?_) | exact FD.out)) : p := h
theorem zb53 (h : p := by (with_reducible repeat (first | refine YY ?_ _ | refine XL ?_ | refine YG ?_ _)); exact V6.out) : p := h
theorem zb54 (h : p := by first | exact Kd.Qe _ _ _ _ _ | exact Kd.XwK _ _ _ _ _ | exact Kd.XwL _ _ _ _ _ | exact Kd.XwM _ _ _ _ _ | exact Kd.XwN _ _ _ _ _) : p := h
theorem zb55 (h : p := by (with_reducible repeat (first | apply Kd.XU | apply Kd.XX | apply Kd.Yj)); exact HL407_2.out) : p := h
theorem zb56 (h : p := by (with_reducible repeat (first | apply Kd.XU | apply Kd.XX | apply Kd.Yj)); exact HL406_2.out) : p := h
theorem zb57 (h : p := by (with_reducible repeat (first | apply bn | apply bd | apply ba)); exact Gd.out) : p := h
theorem zb58 (h : p := by first | exact ((KeepsOthers.alloc _ _).trans (KeepsOthers.setCell _ _ _)).from _ | exact ((KeepsOthers.setCell _ _ _).trans (KeepsOthers.alloc _ _)).from _) : p := h
theorem zb59 (h : p := by (with_reducible repeat (first | apply Kd.Yo | apply Kd.Yp | apply Kd.Y4)); exact NQ.out) : p := h
theorem zb60 (h : p := by (with_reducible repeat (first | apply Kd.Yo | apply Kd.Yp | apply Kd.Y4)); exact NR.out) : p := h
theorem zb61 (h : p := by (with_reducible repeat (first | apply Kd.Yo | apply Kd.Yp | apply Kd.Y4)); exact TC.out) : p := h
theorem zb62 (h : p := by (with_reducible repeat (first | apply Kd.Yo | apply Kd.Yp | apply Kd.Y4)); exact TD.out) : p := h
theorem zb63 (h : p := by (with_reducible repeat (first | apply Kd.Yo | apply Kd.Yp | apply Kd.Y4)); exact NU.out) : p := h
theorem zb64 (h : p := by (with_reducible repeat (first | apply Kd.Yo | apply Kd.Yp | apply Kd.Y4)); exact NV.out) : p := h
theorem zb65 (h : p := by (with_reducible repeat (first | apply Kd.XU | apply Kd.XX | apply Kd.Yj)); exact Eh.out) : p := h
theorem zb66 (h : p := by have := HK1.out; first | omega | exact Nat.le_refl _) : p := h
theorem zb67 (h : p := by (with_reducible repeat (first | apply Kd.XU | apply Kd.XX | apply Kd.Yj)); exact (fR8 HO_13.out JP.out (by decide))) : p := h
theorem zb68 (h : p := by repeat (first | (with_reducible first | exact HB.out | apply X0 | apply Yh | apply Vm | refine Xz ?_ Xju.out | refine Xz ?_ XpB.out) | exact HB.out)) : p := h
theorem zb69 (h : p := by (with_reducible repeat (first | apply Kd.XU | apply Kd.XX | apply Kd.Yj)); exact (fR8 HO_7.out JP.out (by decide))) : p := h
theorem zb70 (h : p := by first | rfl | (simp; done) | (simp only [← hji6] <;> (first | rfl | simp)) | (simp [*]; done)) : p := h
theorem zb71 (h : p := by have := hx.out; omega) : p := h
theorem zb72 (h : p := by have := HLT.out; omega) : p := h
theorem zb73 (h : p := by repeat (first | (with_reducible first | exact HB.out | apply X0 | apply Yh | apply Vm | refine Xz ?_ Xju.out) | exact HB.out)) : p := h
theorem zb74 (h : p := by (with_reducible repeat (first | apply Kd.Yo | apply Kd.Yp | apply Kd.Y4)); exact HO_605001.out) : p := h
theorem zb75 (h : p := by (with_reducible repeat (first | apply Kd.Yo | apply Kd.Yp | apply Kd.Y4)); exact HO_605000.out) : p := h
theorem zb76 (h : p := by (with_reducible repeat (first | refine YY ?_ _ | refine XL ?_ | refine YG ?_ _)); refine XY (cs := #[.int .i64 DT, .int .i64 KQ, .slice NG Dp.length NH]) ?_ 1 _ rfl; (with_reducible repeat (first | refine YY ?_ _ | refine XL ?_ | refine YG ?_ _)); exact J2.out) : p := h
theorem zb77 (h : p := by (with_reducible repeat (first | apply Kd.XU | apply Kd.XX | apply Kd.Yj)); exact NW.out) : p := h
theorem zb78 (h : p := by (with_reducible repeat (first | apply Kd.XU | apply Kd.XX | apply Kd.Yj)); exact TE.out) : p := h
theorem zb79 (h : p := by (with_reducible repeat (first | apply Kd.XU | apply Kd.XX | apply Kd.Yj)); exact NY.out) : p := h
theorem zb80 (h : p := by (with_reducible repeat (first | apply Kd.XU | apply Kd.XX | apply Kd.Yj)); exact HO_5.out) : p := h
theorem zb81 (h : p := by first | (simp; omega) | omega) : p := h
theorem zb82 (h : p := by (with_reducible repeat (first | apply Kd.Yo | apply Kd.Yp | apply Kd.Y4)); exact (Kd.Ze (Kd.Yx (p := ⟨MG, 0, none⟩) (Kd.JQ XaI.out Gf.out (by decide)) (fun _ hk => hk.2) (.slice KR NZ.length KS)) (fun _ h_ => h_.1))) : p := h
theorem zb83 (h : p := by (with_reducible repeat (first | apply Kd.XU | apply Kd.XX | apply Kd.Yj)); exact (Kd.Yz (Kd.Zo (p := ⟨ZK, 1, none⟩) (Kd.ZX Fx.out J2.out (by decide)) (fun _ hk => hk.2) (.int .i64 0)) (fun _ h_ => h_.1))) : p := h
theorem zb84 (h : p := by have := HZ0.out; first | (simp; done) | (simp; omega) | omega) : p := h
theorem zb85 (h : p := by (with_reducible repeat (first | apply bn | apply bd | apply ba)); exact p8 JP) : p := h
theorem zb86 (h : p := by rw [hw]; exact Yh LW2.out nd) : p := h
theorem zb87 (h : p := by have := HK1.out; have := HK2.out; omega) : p := h
theorem zb88 (h : p := by (with_reducible repeat (first | apply Kd.XU | apply Kd.XX | apply Kd.Yj)); exact HO_605002.out) : p := h
theorem zb89 (h : p := by have := HI.out; omega) : p := h
theorem zb90 (h : p := by (with_reducible repeat (first | apply Kd.XU | apply Kd.XX | apply Kd.Yj)); exact Fx.out) : p := h
theorem zb91 (h : p := by rw [h.len]; omega) : p := h
theorem zb92 (h : p := by exact DY.out) : p := h
theorem zb93 (h : p := by simp [Value.ownBlock]) : p := h
theorem zb94 (h : p := by first | rfl | (simp [F5, F6] <;> rfl) | (simp only [← hji4]; first | rfl | (simp [F5, F6] <;> rfl)) | (simp [*, F5, F6] <;> rfl)) : p := h
theorem zb95 (h : p := by (try simp only [List.map_toArray, List.map_cons, List.map_nil]); first | done | (simp only [hji9]; rfl) | rfl | (simp only [List.length_drop, List.length_take]; rfl)) : p := h
theorem zb96 (h : p := by have := HJ2.out; have := HK2.out; have := HK3.out; omega) : p := h
theorem zb97 (h : p := by (with_reducible repeat (first | apply bn | apply bd | apply ba)); exact Sa.out) : p := h
theorem zb98 (h : p := by (with_reducible repeat (first | apply bn | apply bd | apply ba)); exact Vf.out) : p := h
theorem zb99 (h : p := by (with_reducible repeat (first | apply bn | apply bd | apply ba)); exact YK.out) : p := h
theorem zb100 (h : p := by repeat (first | exact (Kd.Xr EN.out HB.out) | (with_reducible refine Kd.YC ?_ _) | (with_reducible refine Kd.YE ?_ _) | (with_reducible refine Kd.Zi ?_))) : p := h
theorem zb101 (h : p := by repeat (first | exact (Kd.Xr EO.out HB.out) | (with_reducible refine Kd.YC ?_ _) | (with_reducible refine Kd.YE ?_ _) | (with_reducible refine Kd.Zi ?_))) : p := h
theorem zb102 (h : p := by repeat (first | exact (Kd.Xr Xjw.out HB.out) | (with_reducible refine Kd.YC ?_ _) | (with_reducible refine Kd.YE ?_ _) | (with_reducible refine Kd.Zi ?_))) : p := h
theorem zb103 (h : p := by repeat (first | exact (Kd.Xr Xjx.out HB.out) | (with_reducible refine Kd.YC ?_ _) | (with_reducible refine Kd.YE ?_ _) | (with_reducible refine Kd.Zi ?_))) : p := h
theorem zb104 (h : p := by (with_reducible repeat (first | apply bn | apply bd | apply ba)); exact p8 YK) : p := h
theorem zb105 (h : p := by repeat (first | exact (Kd.Xr Xwi.out HB.out) | (with_reducible refine Kd.YC ?_ _) | (with_reducible refine Kd.YE ?_ _) | (with_reducible refine Kd.Zi ?_))) : p := h
theorem zb106 (h : p := by rw [HN.out]; rfl) : p := h
theorem zb107 (h : p := by rw [← JC _ _ 2 (by omega)]; exact hc 2 _ rfl) : p := h
theorem zb108 (h : p := by rw [← JC _ _ 1 (by omega)]; exact hc 1 _ rfl) : p := h
theorem zb109 (h : p := by (with_reducible repeat (first | apply Kd.XU | apply Kd.XX | apply Kd.Yj)); exact Kd.Yz HL407_2.out (fun _ hk => ⟨hk.2, hk.1.2⟩)) : p := h
theorem zb110 (h : p := by (with_reducible repeat (first | apply Kd.XU | apply Kd.XX | apply Kd.Yj)); exact Kd.Yz HL406_2.out (fun _ hk => ⟨hk.2, hk.1.2⟩)) : p := h
theorem zb111 (h : p := by exact (ZJ.one (show Kd.M (Kd.int .u8) _ _ _ ((wrap64 (48 + (Int.tmod a0 10))) % 256) [.int .u8 ((wrap64 (48 + (Int.tmod a0 10))) % 256)] from rfl) (ZJ.none _ _))) : p := h
theorem zb112 (h : p := by (with_reducible repeat (first | apply Kd.XU | apply Kd.XX | apply Kd.Yj)); exact Kd.Yz MH.out (fun _ hk => ⟨hk.1.2, hk.2⟩)) : p := h
theorem zb113 (h : p := by have := HJ2.out; have := HK2.out; have := HK3.out; have := HJ13.out; omega) : p := h
theorem zb114 (h : p := by (with_reducible repeat (first | apply Kd.XU | apply Kd.XX | apply Kd.Yj)); exact Kd.Yz HO_13.out (fun _ hk => ⟨trivial, hk⟩)) : p := h
theorem zb115 (h : p := by exact Wq.out) : p := h
theorem zb116 (h : p := by (with_reducible repeat (first | apply Kd.XU | apply Kd.XX | apply Kd.Yj)); exact Kd.Yz OO.out (fun _ hk => trivial)) : p := h
theorem zb117 (h : p := by (with_reducible repeat (first | apply Kd.Yo | apply Kd.Yp | apply Kd.Y4)); exact Kd.Ze OJ.out (fun _ hk => hk.1.1)) : p := h
theorem zb118 (h : p := by (with_reducible repeat (first | apply Kd.Yo | apply Kd.Yp | apply Kd.Y4)); exact Kd.Ze OM.out (fun _ hk => hk.1.1)) : p := h
theorem zb119 (h : p := by (with_reducible repeat (first | apply Kd.XU | apply Kd.XX | apply Kd.Yj)); exact Kd.Yz HO_13.out (fun _ hk => hk.2)) : p := h
theorem zb120 (h : p := by (with_reducible repeat (first | apply Kd.XU | apply Kd.XX | apply Kd.Yj)); exact (fR5 NW.out JW.out (by decide))) : p := h
theorem zb121 (h : p := by (with_reducible repeat (first | apply Kd.XU | apply Kd.XX | apply Kd.Yj)); exact (fR5 OO.out JH.out (by decide))) : p := h
theorem zb122 (h : p := by (with_reducible repeat (first | apply Kd.XU | apply Kd.XX | apply Kd.Yj)); exact (fR5 NY.out JX.out (by decide))) : p := h
theorem zb123 (h : p := by exact Ws.out) : p := h
theorem zb124 (h : p := by rw [hw]; exact Yh LW3.out nd) : p := h
theorem zb125 (h : p := by have := HK1.out; have := HJ6.out; omega) : p := h
theorem zb126 (h : p := by (repeat (first | (with_reducible first | apply bn | apply bd | apply ba) | apply bf YX)); exact YK.out) : p := h
theorem zb127 (h : p := by (repeat (first | (with_reducible first | apply bn | apply bd | apply ba) | apply bf Cs)); exact MI.out) : p := h
theorem zb128 (h : p := by (repeat (first | (with_reducible first | apply bn | apply bd | apply ba) | apply bf XaJ)); exact DJ.out) : p := h
theorem zb129 (h : p := by rw [hg]; exact (Xv zb1)) : p := h
theorem zb130 (h : p := by (try simp only [List.map_toArray, List.map_cons, List.map_nil]); first | done | rfl) : p := h
theorem zb131 (h : p := by rw [hg]; exact (Xv zb0)) : p := h
theorem zb132 (h : p := by have := HZ0.out; omega) : p := h
theorem zb133 (h : p := by simp; omega) : p := h
theorem zb134 (h : p := by as_aux_lemma => unfold Func.isWrapper; first | (rw [if_pos (by decide +kernel)]; kernel_rfl) | (rw [if_neg (by decide +kernel)]; exact ⟨rfl, rfl⟩)) : p := h
theorem zb135 (h : p := by rw [hg]; exact Nat.ne_of_lt (Vg (g := DK) (o := .cells #[.int .i64 X4, .int .i64 XB, .slice XE Xe.length XF] 56 (0, 0)) zb17)) : p := h
theorem zb136 (h : p := by rw [hg]; exact Nat.ne_of_gt (Vg (g := DK) (o := .cells #[.int .i64 X4, .int .i64 XB, .slice XE Xe.length XF] 56 (0, 0)) zb17)) : p := h
theorem zb137 (h : p := by (with_reducible repeat (first | refine YY ?_ _ | refine XL ?_ | refine YG ?_ _)); refine Jt ?_ D5.out _; (with_reducible repeat (first | refine YY ?_ _ | refine XL ?_ | refine YG ?_ _)); exact V6.out) : p := h
theorem zb138 (h : p := by (with_reducible repeat (first | refine YY ?_ _ | refine XL ?_ | refine YG ?_ _)); refine Jt ?_ Fy.out _; (with_reducible repeat (first | refine YY ?_ _ | refine XL ?_ | refine YG ?_ _)); exact J8.out) : p := h
theorem zb139 (h : p := by (with_reducible repeat (first | refine YY ?_ _ | refine XL ?_ | refine YG ?_ _)); refine Jt ?_ Fz.out _; (with_reducible repeat (first | refine YY ?_ _ | refine XL ?_ | refine YG ?_ _)); exact Vi.out) : p := h
theorem zb140 (h : p := by rw [hg]; exact Nat.ne_of_lt (Vg (g := VD) (o := .cells #[.int .i64 Zu, .int .i64 Z5, .int .i64 Vq, .int .i64 Zj, .int .i64 ZW, .int .i64 ZR, .int .i64 Vr, .int .i64 Vs] 76 (0, 0)) zb24)) : p := h
theorem zb141 (h : p := by rw [hg]; exact Nat.ne_of_gt (Vg (g := VD) (o := .cells #[.int .i64 Zu, .int .i64 Z5, .int .i64 Vq, .int .i64 Zj, .int .i64 ZW, .int .i64 ZR, .int .i64 Vr, .int .i64 Vs] 76 (0, 0)) zb24)) : p := h
theorem zb142 (h : p := by first | omega | exact Nat.le_refl _) : p := h
theorem zb143 (h : p := by repeat (first | exact (Kd.Xr VU.out zb0) | (with_reducible refine Kd.YC ?_ _) | (with_reducible refine Kd.YE ?_ _) | (with_reducible refine Kd.Zi ?_))) : p := h
theorem zb144 (h : p := by (with_reducible repeat (first | apply Kd.XU | apply Kd.XX | apply Kd.Yj)); exact Kd.Yz Xjy.out (fun _ hk => zb93)) : p := h
theorem zb145 (h : p := by repeat (first | exact zb22 | (with_reducible refine Kd.YC ?_ _) | (with_reducible refine Kd.YE ?_ _) | (with_reducible refine Kd.Zi ?_))) : p := h
theorem zb146 (h : p := by as_aux_lemma => kernel_rfl) : p := h
theorem zb147 (h : p := by (with_reducible repeat (first | refine YY ?_ _ | refine XL ?_ | refine YG ?_ _)); exact J2.out) : p := h
