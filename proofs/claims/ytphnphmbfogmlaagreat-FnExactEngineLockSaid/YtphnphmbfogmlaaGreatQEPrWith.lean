import Derived.Test.YtphnphmbfogmlaaGreatQEByq
import Derived.Test.YtphnphmbfogmlaaGreatQEWMore
import Derived.Test.YtphnphmbfogmlaaGreatQEPrK
import Derived.Test.YtphnphmbfogmlaaGreatQESx
import Derived.Test.YtphnphmbfogmlaaGreatQERec
/- Short words for the events of a region that draws its order. -/
namespace Go.Proofs.YtphnphmbfogmlaaGreat.Pr
open Go.RowKit Go.PW Go.PL Go.PM
abbrev yy : Bool := true
abbrev nn : Bool := false
set_option linter.unusedVariables false
section
variable {P : Program} {ops : Array Oper} {Q : Exit → Act → World → Prop} {md : Region.Mode} {S : World → Prop} {ds : List Nat} {oi : Oper} {v : Value} {fuel : Nat} {l : Array Bool} {a a' : Act} {w : World} {T : Bool × List (List Nat × List Nat)} {B : List Nat}
/-- A pure event. -/
theorem pu (i n : Nat) (l' : Array Bool) (hT : Aside0 (Ve md ops = T)) (h : XT P md ops Q S ds fuel l' a' w) (hi : ops[i]? = some oi := by rfl) (hN : oi.dst = some n := by rfl) (hc : XvM T l.toList l'.toList i = true := by kernel_rfl) (hQ : ∀ c a w, Q (.panic c) (a.put oi.dst v) w → Q (.panic c) a w := by exact fun _ _ _ h => h) (hy : Yields P ops oi v a := by exact Or.inl ⟨by rfl, by intro w'; go_simp; with_reducible rfl⟩) (ha : a.put (some n) v = a' := by simp only [Act.put, List.setIfInBounds_toArray, List.set_cons_zero, List.set_cons_succ, X9, XK]; rfl) : XT P md ops Q S ds (fuel + 1) l a w :=
 Sz l' hi hN (Ed hT.out hc) hQ hy ha h
/-- One that is not wanted. -/
theorem pn (i n : Nat) (l' : Array Bool) (hT : Aside0 (Ve md ops = T)) (h : XT P md ops Q S ds fuel l' a' w) (hi : ops[i]? = some oi := by rfl) (hN : oi.dst = some n := by rfl) (hc : XvM T l.toList l'.toList i = true := by kernel_rfl) (hQ : ∀ c a w, Q (.panic c) (a.put oi.dst undef) w → Q (.panic c) a w := by exact fun _ _ _ h => h) (hy : Yields P ops oi undef a := by exact Or.inr ⟨by rfl, rfl⟩) (ha : a.put (some n) undef = a' := by simp only [Act.put, List.setIfInBounds_toArray, List.set_cons_zero, List.set_cons_succ, X9, XK]; rfl) : XT P md ops Q S ds (fuel + 1) l a w :=
 Sz l' hi hN (Ed hT.out hc) hQ hy ha h
/-- A load. -/
theorem tk (i n : Nat) (l' : Array Bool) (hT : Aside0 (Ve md ops = T)) (hW : Aside0 (Ja T.2 B = true)) (hS : S w) (h : XT P md ops Q S ds fuel l' a' w) (hi : ops[i]? = some oi := by rfl) (hN : oi.dst = some n := by rfl) (hc : XrF T B ds l.toList l'.toList i = true := by kernel_rfl) (hQ : ∀ c a w, Q (.panic c) (a.put oi.dst v) w → Q (.panic c) a w := by exact fun _ _ _ h => h) (hy : YieldsIf P ops S oi v a := by exact Or.inl ⟨by rfl, by intro w' hs_; (repeat (have hs1_ := hs_.1; replace hs_ := hs_.2)); go_simp; with_reducible rfl⟩) (ha : a.put (some n) v = a' := by simp only [Act.put, List.setIfInBounds_toArray, List.set_cons_zero, List.set_cons_succ, X9, XK]; rfl) : XT P md ops Q S ds (fuel + 1) l a w :=
 Sy l' hi hN (Ci hT.out hW.out hc) hQ hy hS ha h
/-- The same, by the kernel alone. -/
theorem pu0 (i n : Nat) (l' : Array Bool) (h : XT P md ops Q S ds fuel l' a' w) (hi : ops[i]? = some oi := by rfl) (hN : oi.dst = some n := by rfl) (hc : Xp4 md ops l l' i = true := by kernel_rfl) (hQ : ∀ c a w, Q (.panic c) (a.put oi.dst v) w → Q (.panic c) a w := by exact fun _ _ _ h => h) (hy : Yields P ops oi v a := by exact Or.inl ⟨by rfl, by intro w'; go_simp; with_reducible rfl⟩) (ha : a.put (some n) v = a' := by simp only [Act.put, List.setIfInBounds_toArray, List.set_cons_zero, List.set_cons_succ, X9, XK]; rfl) : XT P md ops Q S ds (fuel + 1) l a w :=
 Sz l' hi hN hc hQ hy ha h
/-- The same, by the kernel alone. -/
theorem pn0 (i n : Nat) (l' : Array Bool) (h : XT P md ops Q S ds fuel l' a' w) (hi : ops[i]? = some oi := by rfl) (hN : oi.dst = some n := by rfl) (hc : Xp4 md ops l l' i = true := by kernel_rfl) (hQ : ∀ c a w, Q (.panic c) (a.put oi.dst undef) w → Q (.panic c) a w := by exact fun _ _ _ h => h) (hy : Yields P ops oi undef a := by exact Or.inr ⟨by rfl, rfl⟩) (ha : a.put (some n) undef = a' := by simp only [Act.put, List.setIfInBounds_toArray, List.set_cons_zero, List.set_cons_succ, X9, XK]; rfl) : XT P md ops Q S ds (fuel + 1) l a w :=
 Sz l' hi hN hc hQ hy ha h
/-- The same, by the kernel alone. -/
theorem tk0 (i n : Nat) (l' : Array Bool) (hS : S w) (h : XT P md ops Q S ds fuel l' a' w) (hi : ops[i]? = some oi := by rfl) (hN : oi.dst = some n := by rfl) (hc : takeB md ops ds l l' i = true := by kernel_rfl) (hQ : ∀ c a w, Q (.panic c) (a.put oi.dst v) w → Q (.panic c) a w := by exact fun _ _ _ h => h) (hy : YieldsIf P ops S oi v a := by exact Or.inl ⟨by rfl, by intro w' hs_; (repeat (have hs1_ := hs_.1; replace hs_ := hs_.2)); go_simp; with_reducible rfl⟩) (ha : a.put (some n) v = a' := by simp only [Act.put, List.setIfInBounds_toArray, List.set_cons_zero, List.set_cons_succ, X9, XK]; rfl) : XT P md ops Q S ds (fuel + 1) l a w :=
 Sy l' hi hN hc hQ hy hS ha h
end
end Go.Proofs.YtphnphmbfogmlaaGreat.Pr
namespace Go.Proofs.YtphnphmbfogmlaaGreat.Pr
open Go.RowKit Go.PW Go.PL Go.PM
attribute [local go_sem] YO YP Zm Zn Yv Yw YQ YS
set_option linter.unusedVariables false
set_option linter.unusedSimpArgs false
def Ym.f (X4 : Int) (XB : Int) (Xe : List Int) : Option (Int × Int × List Int) := (ZG.f Xe).bind fun XfM => (some (X4, XB, XfM))
def Ym.T1 : Bool × List (List Nat × List Nat) := (true, [([], []), ([0], [0]), ([], []), ([2], [2]), ([], []), ([4], [4]), ([5], [5]), ([1, 3, 6], [1, 3, 6]), ([7, 6, 0, 1, 2, 3, 4, 5, 6, 7], [7])])
def Ym.B1 : List Nat := [0, 1, 0, 4, 0, 16, 48, 127, 255]
theorem Ym.EH : Ve .any (opsOf Tryz.f96 1) = Ym.T1 := by kernel_rfl
theorem Ym.Ww : Ja Ym.T1.2 Ym.B1 = true := by kernel_rfl
set_option maxHeartbeats 8000000 in
set_option maxRecDepth 100000 in
theorem Ym.calls (X4 : Int) (XB : Int) (XE : Option Addr) (XF : Nat) (Xe : List Int) (r1 : Int) (r2 : Int) (r3 : List Int) (w : World) (hr0_2 : Kd.C (Kd.int .i64) w XE Xe.length Xe) (hc0_2 : Xe.length ≤ XF) (h : Ym.f X4 XB Xe = some (r1, r2, r3)) :
 Calls Tryz.prog 96 #[.agg #[.int .i64 X4, .int .i64 XB, .slice XE Xe.length XF]] w fun e w' => ∃ v2_ : Value, e = .returned (.agg #[.int .i64 r1, .int .i64 r2, v2_]) ∧ Kd.R (Kd.int .i64) 3 w' w.heap.size (fun _ => True) v2_ r3 ∧ Below w.heap.size w w' := by
 have hu56 := Tryz.underlying56; have VU := az hr0_2; have DY := az hc0_2; clear hr0_2 hc0_2; have HB := az (Below.refl w.heap.size w); have H : ((ZG.f Xe).bind fun XfM => (some (X4, XB, XfM))) = some (r1, r2, r3) := h; clear h; replace H := Option.bind_eq_some_iff.mp H; obtain ⟨XfM, A20, H⟩ := H; replace H : (some (X4, XB, XfM)) = some (r1, r2, r3) := H; have A2 := az A20; clear A20; simp only [Option.some.injEq, Prod.mk.injEq] at H; obtain ⟨rfl, rfl, rfl⟩ := H
 go_enter Tryz.func96, Tryz.ntmps96
 try go_wp2_with (first | ((with_reducible refine Xn (N := 1) rfl ?_); refine Xl ?hg (N := 1) ?hd (cs := #[.int .i64 X4, .int .i64 XB, .slice XE Xe.length XF]) (t := 56) ?hr ?_; (case hd => rfl); (case hg => rfl); (case hr => exact zb10); intro Xmj hg w3 hbox hb; have N8 := az (hbox); have X0S := az ((zb129 : w.heap.size ≤ Xmj)); have GE370 := X0S; replace HB := az (Xc zb1 hb); clear hb hbox hg) | ((with_reducible refine Xn (N := 2) rfl ?_); refine Xl ?hg (N := 2) ?hd (cs := #[.int .i64 0, .int .i64 0, .slice none 0 0]) (t := 56) ?hr ?_; (case hd => rfl); (case hg => rfl); (case hr => exact zb10); intro Ul hg w4 hbox hb; have Sj := az (hbox); have X0T := az ((zb131 : w.heap.size ≤ Ul)); have GE371 := X0T; replace HB := az (Xc zb0 hb); obtain ⟨Vh, Cy⟩ := nb N8 hg (fun h => by (with_reducible repeat (first | apply bn | apply bd | apply ba)); exact h); replace N8 := bb N8 (fun h => by (with_reducible repeat (first | apply bn | apply bd | apply ba)); exact h) hb; clear hb hbox hg))
 replace N8 := az (XL N8.out); replace Sj := az (XL Sj.out); replace HB := az (wd HB.out); refine Y5 (n := 9) (S := fun w' => w'.cell? ⟨Xmj, 0, none⟩ = some (.int .i64 X4) ∧ w'.cell? ⟨Xmj, 1, none⟩ = some (.int .i64 XB) ∧ w'.cell? ⟨Xmj, 2, none⟩ = some (.slice XE Xe.length XF)) (ds := []) #[nn,nn,nn,nn,nn,nn,nn,nn,nn] zb9 rfl rfl ⟨bt N8 rfl, bt N8 rfl, bt N8 rfl⟩ (fun hHeld => ?_); refine XV Ym.EH Ym.Ww (fun HT_ HW_ => ?_); generalize w4.drew = w5 at N8 Sj HB hHeld ⊢; refine Sz (i := 0) (N := some 3) (v := ?_) (a' := ?_) #[yy,nn,nn,nn,nn,nn,nn,nn,nn] rfl rfl (Ed HT_.out zb9) (fun _ _ _ h => h) (Or.inl ⟨by rfl, ?_⟩) ?_ ?_; rotate_left
 ·intro w'
  go_simp
  with_reducible rfl
 rotate_left
 ·simp only [Act.put, List.setIfInBounds_toArray, List.set_cons_zero, List.set_cons_succ, X9, XK]
  rfl
 refine Sz (i := 2) (N := some 5) (v := ?_) (a' := ?_) #[yy,nn,yy,nn,nn,nn,nn,nn,nn] rfl rfl (Ed HT_.out zb9) (fun _ _ _ h => h) (Or.inl ⟨by rfl, ?_⟩) ?_ ?_; rotate_left
 ·intro w'
  go_simp
  with_reducible rfl
 rotate_left
 ·simp only [Act.put, List.setIfInBounds_toArray, List.set_cons_zero, List.set_cons_succ, X9, XK]
  rfl
 refine Sz (i := 4) (N := some 7) (v := ?_) (a' := ?_) #[yy,nn,yy,nn,yy,nn,nn,nn,nn] rfl rfl (Ed HT_.out zb9) (fun _ _ _ h => h) (Or.inl ⟨by rfl, ?_⟩) ?_ ?_; rotate_left
 ·intro w'
  go_simp
  with_reducible rfl
 rotate_left
 ·simp only [Act.put, List.setIfInBounds_toArray, List.set_cons_zero, List.set_cons_succ, X9, XK]
  rfl
 refine Sy (i := 1) (N := some 4) (v := ?_) (a' := ?_) #[yy,yy,yy,nn,yy,nn,nn,nn,nn] rfl rfl (Ci HT_.out HW_.out zb9) (fun _ _ _ h => h) (Or.inl ⟨by rfl, ?_⟩) hHeld ?_ ?_; rotate_left
 ·rintro w' ⟨s0, s1, s2⟩
  go_simp
  with_reducible rfl
 rotate_left
 ·simp only [Act.put, List.setIfInBounds_toArray, List.set_cons_zero, List.set_cons_succ, X9, XK]
  rfl
 refine Sy (i := 3) (N := some 6) (v := ?_) (a' := ?_) #[yy,yy,yy,yy,yy,nn,nn,nn,nn] rfl rfl (Ci HT_.out HW_.out zb9) (fun _ _ _ h => h) (Or.inl ⟨by rfl, ?_⟩) hHeld ?_ ?_; rotate_left
 ·rintro w' ⟨s0, s1, s2⟩
  go_simp
  with_reducible rfl
 rotate_left
 ·simp only [Act.put, List.setIfInBounds_toArray, List.set_cons_zero, List.set_cons_succ, X9, XK]
  rfl
 refine Sy (i := 5) (N := some 8) (v := ?_) (a' := ?_) #[yy,yy,yy,yy,yy,yy,nn,nn,nn] rfl rfl (Ci HT_.out HW_.out zb9) (fun _ _ _ h => h) (Or.inl ⟨by rfl, ?_⟩) hHeld ?_ ?_; rotate_left
 ·rintro w' ⟨s0, s1, s2⟩
  go_simp
  with_reducible rfl
 rotate_left
 ·simp only [Act.put, List.setIfInBounds_toArray, List.set_cons_zero, List.set_cons_succ, X9, XK]
  rfl
 refine Zy (i := 6) (N := some 9) #[yy,yy,yy,yy,yy,yy,yy,nn,nn] rfl rfl (Y6 HT_.out zb9) (by decide) (fun K hK => ?_); refine YW Tryz.func111 zb9 rfl #[.slice XE Xe.length XF] (by rfl) rfl rfl zb2 ?_
 with_reducible refine (ZG.calls _ _ Xe XfM _ ?side1 ?side2 A2.out).mono ?_
 (case side1 => exact zb5)
 (case side2 => exact zb92)
 rintro e w6 ⟨v373, rfl, ho0, hb⟩; refine ⟨_, rfl, ?_⟩; have XwG := az (Kd.Zh ho0 (Xv zb0)); replace N8 := bb N8 (fun h => by (with_reducible repeat (first | apply bn | apply bd | apply ba)); exact h) hb; replace Sj := bb Sj (fun h => by (with_reducible repeat (first | apply bn | apply bd | apply ba)); exact h) hb; replace HB := az (Xc zb0 hb)
 (try clear hb);(try clear hb2);(try clear hk);(try clear hi);(try clear ho0)
 obtain ⟨Ao7, co7, eo7⟩ := Kd.YZ XwG.out
 (first | subst eo7 | (injection eo7 with f1_ f2_ f3_; have f4_ := f1_.symm; have f5_ := f3_.symm; clear f1_ f2_ f3_; subst f4_; subst f5_))
 refine hK.out _ _ ⟨bt N8 rfl, bt N8 rfl, bt N8 rfl⟩ (fun hHeld => ?_); clear hK K; refine XZ (a' := ?_) ?_ ?_; rotate_left
 ·show Act.put _ (some 9) _ = _
  simp only [Act.put, List.setIfInBounds_toArray, List.set_cons_zero, List.set_cons_succ, X9, XK]
  rfl
 refine Sz (i := 7) (N := some 10) (v := ?_) (a' := ?_) #[yy,yy,yy,yy,yy,yy,yy,yy,nn] rfl rfl (Ed HT_.out zb9) (fun _ _ _ h => h) (Or.inl ⟨by rfl, ?_⟩) ?_ ?_; rotate_left
 ·intro w'
  go_simp
  with_reducible rfl
 rotate_left
 ·simp only [Act.put, List.setIfInBounds_toArray, List.set_cons_zero, List.set_cons_succ, X9, XK]
  rfl
 refine Zy (i := 8) (N := none) #[yy,yy,yy,yy,yy,yy,yy,yy,yy] rfl rfl (Y6 HT_.out zb9) (by decide) (fun K hK => ?_); have hs8 : w6.cell? ⟨Ul, 0, none⟩ = some (.int .i64 0) := bt Sj rfl; have hfs8 := Xd Sj.out 0; have hns8_0 := Vh.out; have hms8_0 := Cy.out; have hs9 : w6.cell? ⟨Ul, 1, none⟩ = some (.int .i64 0) := bt Sj rfl; have hfs9 := Xd Sj.out 1; have hns9_0 := Vh.out; have hms9_0 := Cy.out; have hs10 : w6.cell? ⟨Ul, 2, none⟩ = some (.slice none 0 0) := bt Sj rfl; have hfs10 := Xd Sj.out 2; have hns10_0 := Vh.out; have hms10_0 := Cy.out; refine Li (w1 := ?_) (by rfl) rfl ?_ ?_; rotate_left
 ·go_simp
  rfl
 refine hK.out _ _ ⟨((cell_far (p := ⟨Ul, _, none⟩) Vh.out _).trans (((cell_far (p := ⟨Ul, _, none⟩) Vh.out _).trans (((cell_far (p := ⟨Ul, _, none⟩) Vh.out _).trans (hHeld.1)))))), ((cell_far (p := ⟨Ul, _, none⟩) Vh.out _).trans (((cell_far (p := ⟨Ul, _, none⟩) Vh.out _).trans (((cell_far (p := ⟨Ul, _, none⟩) Vh.out _).trans (hHeld.2.1)))))), ((cell_far (p := ⟨Ul, _, none⟩) Vh.out _).trans (((cell_far (p := ⟨Ul, _, none⟩) Vh.out _).trans (((cell_far (p := ⟨Ul, _, none⟩) Vh.out _).trans (hHeld.2.2))))))⟩ (fun hHeld => ?_); clear hK K; refine Zl (YT HT_.out zb9) ?_
 try go_wp2
 refine bodyPost_ret (results_cell_row rfl _ _ Ul 56 #[.int .i64 X4, .int .i64 XB, .slice Ao7 XfM.length co7] (0, 0) _ rfl (by (with_reducible repeat (first | apply bn | apply bd | apply ba)); exact p3 Sj) Tryz.underlying56 rfl zb9) rfl ?_; exact ⟨_, zb4, by (with_reducible repeat (first | apply Kd.XU | apply Kd.XX | apply Kd.Yj)); exact Kd.Yz (Kd.Zo (p := ⟨Ul, 2, none⟩) (Kd.Zo (p := ⟨Ul, 1, none⟩) (Kd.Zo (p := ⟨Ul, 0, none⟩) (Kd.ZX XwG.out Sj.out (by decide)) (fun _ hk => hk.2) (.int .i64 X4)) (fun _ hk => hk.2) (.int .i64 XB)) (fun _ hk => hk.2) (.slice Ao7 XfM.length co7)) (fun _ hk => trivial), zb0⟩
def Zx.f (X4 : Int) (XB : Int) (Xe : List Int) (Zu : Int) (Z5 : Int) (Vq : Int) (Zj : Int) (ZW : Int) (ZR : Int) (Vr : Int) (Vs : Int) : Option (Int × Int × List Int) := (Ym.f X4 XB Xe).bind fun IL => (if Zj ≥ 0 then (if 0 ≤ Zj then (if Zj < (IL.2.2.length : Int) then (some (IL.1, IL.2.1, (IL.2.2.set (Zj : Int).toNat ZR))) else (none)) else (none)) else (if ZR = 0 then (if 3 ≤ 35184372088832 then (some (IL.1, 0, (List.replicate 3 0))) else (none)) else (some (IL.1, ZR, IL.2.2))))
end Go.Proofs.YtphnphmbfogmlaaGreat.Pr
