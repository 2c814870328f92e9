import Derived.Test.YtphnphmbfogmlaaGreatQFByq
import Derived.Test.YtphnphmbfogmlaaGreatQFWMore
import Derived.Test.YtphnphmbfogmlaaGreatQFPrK
import Derived.Test.YtphnphmbfogmlaaGreatQFSx
import Derived.Test.YtphnphmbfogmlaaGreatQFRec
/- Short words for the events of a region that draws its order. -/
namespace Go.Proofs.YtphnphmbfogmlaaGreat.Pr
open Go.RowKit Go.PW Go.PL Go.PM
abbrev yy : Bool := true
abbrev nn : Bool := false
set_option linter.unusedVariables false
section
variable {P : Program} {ops : Array Oper} {Q : Exit → Act → World → Prop} {md : Region.Mode} {S : World → Prop} {ds : List Nat} {oi : Oper} {v : Value} {fuel : Nat} {l : Array Bool} {a a' : Act} {w : World} {T : Bool × List (List Nat × List Nat)} {B : List Nat}
/-- A pure event. -/
theorem pu (i n : Nat) (l' : Array Bool) (hT : Aside0 (JH md ops = T)) (h : XI P md ops Q S ds fuel l' a' w) (hi : ops[i]? = some oi := by rfl) (hN : oi.dst = some n := by rfl) (hc : Xr7 T l.toList l'.toList i = true := by kernel_rfl) (hQ : ∀ c a w, Q (.panic c) (a.put oi.dst v) w → Q (.panic c) a w := by exact fun _ _ _ h => h) (hy : Yields P ops oi v a := by exact Or.inl ⟨by rfl, by intro w'; go_simp; with_reducible rfl⟩) (ha : a.put (some n) v = a' := by simp only [Act.put, List.setIfInBounds_toArray, List.set_cons_zero, List.set_cons_succ, Xz, XF]; rfl) : XI P md ops Q S ds (fuel + 1) l a w :=
 MO l' hi hN (NJ hT.out hc) hQ hy ha h
/-- One that is not wanted. -/
theorem pn (i n : Nat) (l' : Array Bool) (hT : Aside0 (JH md ops = T)) (h : XI P md ops Q S ds fuel l' a' w) (hi : ops[i]? = some oi := by rfl) (hN : oi.dst = some n := by rfl) (hc : Xr7 T l.toList l'.toList i = true := by kernel_rfl) (hQ : ∀ c a w, Q (.panic c) (a.put oi.dst undef) w → Q (.panic c) a w := by exact fun _ _ _ h => h) (hy : Yields P ops oi undef a := by exact Or.inr ⟨by rfl, rfl⟩) (ha : a.put (some n) undef = a' := by simp only [Act.put, List.setIfInBounds_toArray, List.set_cons_zero, List.set_cons_succ, Xz, XF]; rfl) : XI P md ops Q S ds (fuel + 1) l a w :=
 MO l' hi hN (NJ hT.out hc) hQ hy ha h
/-- A load. -/
theorem tk (i n : Nat) (l' : Array Bool) (hT : Aside0 (JH md ops = T)) (hW : Aside0 (Z4 T.2 B = true)) (hS : S w) (h : XI P md ops Q S ds fuel l' a' w) (hi : ops[i]? = some oi := by rfl) (hN : oi.dst = some n := by rfl) (hc : Xnx T B ds l.toList l'.toList i = true := by kernel_rfl) (hQ : ∀ c a w, Q (.panic c) (a.put oi.dst v) w → Q (.panic c) a w := by exact fun _ _ _ h => h) (hy : YieldsIf P ops S oi v a := by exact Or.inl ⟨by rfl, by intro w' hs_; (repeat (have hs1_ := hs_.1; replace hs_ := hs_.2)); go_simp; with_reducible rfl⟩) (ha : a.put (some n) v = a' := by simp only [Act.put, List.setIfInBounds_toArray, List.set_cons_zero, List.set_cons_succ, Xz, XF]; rfl) : XI P md ops Q S ds (fuel + 1) l a w :=
 NI l' hi hN (FQ hT.out hW.out hc) hQ hy hS ha h
/-- The same, by the kernel alone. -/
theorem pu0 (i n : Nat) (l' : Array Bool) (h : XI P md ops Q S ds fuel l' a' w) (hi : ops[i]? = some oi := by rfl) (hN : oi.dst = some n := by rfl) (hc : Xlz md ops l l' i = true := by kernel_rfl) (hQ : ∀ c a w, Q (.panic c) (a.put oi.dst v) w → Q (.panic c) a w := by exact fun _ _ _ h => h) (hy : Yields P ops oi v a := by exact Or.inl ⟨by rfl, by intro w'; go_simp; with_reducible rfl⟩) (ha : a.put (some n) v = a' := by simp only [Act.put, List.setIfInBounds_toArray, List.set_cons_zero, List.set_cons_succ, Xz, XF]; rfl) : XI P md ops Q S ds (fuel + 1) l a w :=
 MO l' hi hN hc hQ hy ha h
/-- The same, by the kernel alone. -/
theorem pn0 (i n : Nat) (l' : Array Bool) (h : XI P md ops Q S ds fuel l' a' w) (hi : ops[i]? = some oi := by rfl) (hN : oi.dst = some n := by rfl) (hc : Xlz md ops l l' i = true := by kernel_rfl) (hQ : ∀ c a w, Q (.panic c) (a.put oi.dst undef) w → Q (.panic c) a w := by exact fun _ _ _ h => h) (hy : Yields P ops oi undef a := by exact Or.inr ⟨by rfl, rfl⟩) (ha : a.put (some n) undef = a' := by simp only [Act.put, List.setIfInBounds_toArray, List.set_cons_zero, List.set_cons_succ, Xz, XF]; rfl) : XI P md ops Q S ds (fuel + 1) l a w :=
 MO l' hi hN hc hQ hy ha h
/-- The same, by the kernel alone. -/
theorem tk0 (i n : Nat) (l' : Array Bool) (hS : S w) (h : XI P md ops Q S ds fuel l' a' w) (hi : ops[i]? = some oi := by rfl) (hN : oi.dst = some n := by rfl) (hc : takeB md ops ds l l' i = true := by kernel_rfl) (hQ : ∀ c a w, Q (.panic c) (a.put oi.dst v) w → Q (.panic c) a w := by exact fun _ _ _ h => h) (hy : YieldsIf P ops S oi v a := by exact Or.inl ⟨by rfl, by intro w' hs_; (repeat (have hs1_ := hs_.1; replace hs_ := hs_.2)); go_simp; with_reducible rfl⟩) (ha : a.put (some n) v = a' := by simp only [Act.put, List.setIfInBounds_toArray, List.set_cons_zero, List.set_cons_succ, Xz, XF]; rfl) : XI P md ops Q S ds (fuel + 1) l a w :=
 NI l' hi hN hc hQ hy hS ha h
end
end Go.Proofs.YtphnphmbfogmlaaGreat.Pr
namespace Go.Proofs.YtphnphmbfogmlaaGreat.Pr
open Go.RowKit Go.PW Go.PL Go.PM
attribute [local go_sem] Y3 Y4 YN YO Ya Yb Y5 Y6
set_option linter.unusedVariables false
set_option linter.unusedSimpArgs false
def Yf.f (Xu : Int) (Xy : Int) (Xm : List Int) : Option (Int × Int × List Int) := (Zq.f Xm).bind fun Xck => (some (Xu, Xy, Xck))
def Yf.T1 : Bool × List (List Nat × List Nat) := (true, [([], []), ([0], [0]), ([], []), ([2], [2]), ([], []), ([4], [4]), ([5], [5]), ([1, 3, 6], [1, 3, 6]), ([7, 6, 0, 1, 2, 3, 4, 5, 6, 7], [7])])
def Yf.B1 : List Nat := [0, 1, 0, 4, 0, 16, 48, 127, 255]
theorem Yf.TH : JH .any (opsOf Tryz.f96 1) = Yf.T1 := by kernel_rfl
theorem Yf.MQ : Z4 Yf.T1.2 Yf.B1 = true := by kernel_rfl
set_option maxHeartbeats 8000000 in
set_option maxRecDepth 100000 in
theorem Yf.calls (Xu : Int) (Xy : Int) (Yg : Option Addr) (Yh : Nat) (Xm : List Int) (r1 : Int) (r2 : Int) (r3 : List Int) (w : World) (hr0_2 : Kd.C (Kd.int .i64) w Yg Xm.length Xm) (hc0_2 : Xm.length ≤ Yh) (h : Yf.f Xu Xy Xm = some (r1, r2, r3)) :
 Calls Tryz.prog 96 #[.agg #[.int .i64 Xu, .int .i64 Xy, .slice Yg Xm.length Yh]] w fun e w' => ∃ v2_ : Value, e = .returned (.agg #[.int .i64 r1, .int .i64 r2, v2_]) ∧ Kd.R (Kd.int .i64) 3 w' w.heap.size (fun _ => True) v2_ r3 ∧ Below w.heap.size w w' := by
 have hu56 := Tryz.underlying56; have U6 := az hr0_2; have JI := az hc0_2; clear hr0_2 hc0_2; have HB := az (Below.refl w.heap.size w); have H : ((Zq.f Xm).bind fun Xck => (some (Xu, Xy, Xck))) = some (r1, r2, r3) := h; clear h; replace H := Option.bind_eq_some_iff.mp H; obtain ⟨Xck, A20, H⟩ := H; replace H : (some (Xu, Xy, Xck)) = some (r1, r2, r3) := H; have A2 := az A20; clear A20; simp only [Option.some.injEq, Prod.mk.injEq] at H; obtain ⟨rfl, rfl, rfl⟩ := H
 go_enter Tryz.func96, Tryz.ntmps96
 try go_wp2_with (first | ((with_reducible refine Xp (N := 1) rfl ?_); refine Xn ?hg (N := 1) ?hd (cs := #[.int .i64 Xu, .int .i64 Xy, .slice Yg Xm.length Yh]) (t := 56) ?hr ?_; (case hd => rfl); (case hg => rfl); (case hr => exact zb7); intro Xiz hg w3 hbox hb; have UK := az (hbox); have XvS := az ((zb95 : w.heap.size ≤ Xiz)); have GE370 := XvS; replace HB := az (Xc zb0 hb); clear hb hbox hg) | ((with_reducible refine Xp (N := 2) rfl ?_); refine Xn ?hg (N := 2) ?hd (cs := #[.int .i64 0, .int .i64 0, .slice none 0 0]) (t := 56) ?hr ?_; (case hd => rfl); (case hg => rfl); (case hr => exact zb7); intro FL hg w4 hbox hb; have Mg := az (hbox); have XvT := az ((zb97 : w.heap.size ≤ FL)); have GE371 := XvT; replace HB := az (Xc zb1 hb); obtain ⟨JP, Kz⟩ := nb UK hg (fun h => by (with_reducible repeat (first | apply bn | apply bd | apply ba)); exact h); replace UK := bb UK (fun h => by (with_reducible repeat (first | apply bn | apply bd | apply ba)); exact h) hb; clear hb hbox hg))
 replace UK := az (XB UK.out); replace Mg := az (XB Mg.out); replace HB := az (wd HB.out); refine Yw (n := 9) (S := fun w' => w'.cell? ⟨Xiz, 0, none⟩ = some (.int .i64 Xu) ∧ w'.cell? ⟨Xiz, 1, none⟩ = some (.int .i64 Xy) ∧ w'.cell? ⟨Xiz, 2, none⟩ = some (.slice Yg Xm.length Yh)) (ds := []) #[nn,nn,nn,nn,nn,nn,nn,nn,nn] zb6 rfl rfl ⟨bt UK rfl, bt UK rfl, bt UK rfl⟩ (fun hHeld => ?_); refine XH Yf.TH Yf.MQ (fun HT_ HW_ => ?_); generalize w4.drew = w5 at UK Mg HB hHeld ⊢; refine MO (i := 0) (N := some 3) (v := ?_) (a' := ?_) #[yy,nn,nn,nn,nn,nn,nn,nn,nn] rfl rfl (NJ HT_.out zb6) (fun _ _ _ h => h) (Or.inl ⟨by rfl, ?_⟩) ?_ ?_; rotate_left
 ·intro w'
  go_simp
  with_reducible rfl
 rotate_left
 ·simp only [Act.put, List.setIfInBounds_toArray, List.set_cons_zero, List.set_cons_succ, Xz, XF]
  rfl
 refine MO (i := 2) (N := some 5) (v := ?_) (a' := ?_) #[yy,nn,yy,nn,nn,nn,nn,nn,nn] rfl rfl (NJ HT_.out zb6) (fun _ _ _ h => h) (Or.inl ⟨by rfl, ?_⟩) ?_ ?_; rotate_left
 ·intro w'
  go_simp
  with_reducible rfl
 rotate_left
 ·simp only [Act.put, List.setIfInBounds_toArray, List.set_cons_zero, List.set_cons_succ, Xz, XF]
  rfl
 refine MO (i := 4) (N := some 7) (v := ?_) (a' := ?_) #[yy,nn,yy,nn,yy,nn,nn,nn,nn] rfl rfl (NJ HT_.out zb6) (fun _ _ _ h => h) (Or.inl ⟨by rfl, ?_⟩) ?_ ?_; rotate_left
 ·intro w'
  go_simp
  with_reducible rfl
 rotate_left
 ·simp only [Act.put, List.setIfInBounds_toArray, List.set_cons_zero, List.set_cons_succ, Xz, XF]
  rfl
 refine NI (i := 1) (N := some 4) (v := ?_) (a' := ?_) #[yy,yy,yy,nn,yy,nn,nn,nn,nn] rfl rfl (FQ HT_.out HW_.out zb6) (fun _ _ _ h => h) (Or.inl ⟨by rfl, ?_⟩) hHeld ?_ ?_; rotate_left
 ·rintro w' ⟨s0, s1, s2⟩
  go_simp
  with_reducible rfl
 rotate_left
 ·simp only [Act.put, List.setIfInBounds_toArray, List.set_cons_zero, List.set_cons_succ, Xz, XF]
  rfl
 refine NI (i := 3) (N := some 6) (v := ?_) (a' := ?_) #[yy,yy,yy,yy,yy,nn,nn,nn,nn] rfl rfl (FQ HT_.out HW_.out zb6) (fun _ _ _ h => h) (Or.inl ⟨by rfl, ?_⟩) hHeld ?_ ?_; rotate_left
 ·rintro w' ⟨s0, s1, s2⟩
  go_simp
  with_reducible rfl
 rotate_left
 ·simp only [Act.put, List.setIfInBounds_toArray, List.set_cons_zero, List.set_cons_succ, Xz, XF]
  rfl
 refine NI (i := 5) (N := some 8) (v := ?_) (a' := ?_) #[yy,yy,yy,yy,yy,yy,nn,nn,nn] rfl rfl (FQ HT_.out HW_.out zb6) (fun _ _ _ h => h) (Or.inl ⟨by rfl, ?_⟩) hHeld ?_ ?_; rotate_left
 ·rintro w' ⟨s0, s1, s2⟩
  go_simp
  with_reducible rfl
 rotate_left
 ·simp only [Act.put, List.setIfInBounds_toArray, List.set_cons_zero, List.set_cons_succ, Xz, XF]
  rfl
 refine Zj (i := 6) (N := some 9) #[yy,yy,yy,yy,yy,yy,yy,nn,nn] rfl rfl (Yl HT_.out zb6) (by decide) (fun K hK => ?_); refine YI Tryz.func111 zb6 rfl #[.slice Yg Xm.length Yh] (by rfl) rfl rfl zb2 ?_
 with_reducible refine (Zq.calls _ _ Xm Xck _ ?side1 ?side2 A2.out).mono ?_
 (case side1 => exact zb8)
 (case side2 => exact JI.out)
 rintro e w6 ⟨v373, rfl, ho0, hb⟩; refine ⟨_, rfl, ?_⟩; have Xsm := az (Kd.YY ho0 (XA zb1)); replace UK := bb UK (fun h => by (with_reducible repeat (first | apply bn | apply bd | apply ba)); exact h) hb; replace Mg := bb Mg (fun h => by (with_reducible repeat (first | apply bn | apply bd | apply ba)); exact h) hb; replace HB := az (Xc zb1 hb)
 (try clear hb);(try clear hb2);(try clear hk);(try clear hi);(try clear ho0)
 obtain ⟨Ao7, co7, eo7⟩ := Kd.Y2 Xsm.out
 (first | subst eo7 | (injection eo7 with f1_ f2_ f3_; have f4_ := f1_.symm; have f5_ := f3_.symm; clear f1_ f2_ f3_; subst f4_; subst f5_))
 refine hK.out _ _ ⟨bt UK rfl, bt UK rfl, bt UK rfl⟩ (fun hHeld => ?_); clear hK K; refine XQ (a' := ?_) ?_ ?_; rotate_left
 ·show Act.put _ (some 9) _ = _
  simp only [Act.put, List.setIfInBounds_toArray, List.set_cons_zero, List.set_cons_succ, Xz, XF]
  rfl
 refine MO (i := 7) (N := some 10) (v := ?_) (a' := ?_) #[yy,yy,yy,yy,yy,yy,yy,yy,nn] rfl rfl (NJ HT_.out zb6) (fun _ _ _ h => h) (Or.inl ⟨by rfl, ?_⟩) ?_ ?_; rotate_left
 ·intro w'
  go_simp
  with_reducible rfl
 rotate_left
 ·simp only [Act.put, List.setIfInBounds_toArray, List.set_cons_zero, List.set_cons_succ, Xz, XF]
  rfl
 refine Zj (i := 8) (N := none) #[yy,yy,yy,yy,yy,yy,yy,yy,yy] rfl rfl (Yl HT_.out zb6) (by decide) (fun K hK => ?_); have hs8 : w6.cell? ⟨FL, 0, none⟩ = some (.int .i64 0) := bt Mg rfl; have hfs8 := Xe Mg.out 0; have hns8_0 := JP.out; have hms8_0 := Kz.out; have hs9 : w6.cell? ⟨FL, 1, none⟩ = some (.int .i64 0) := bt Mg rfl; have hfs9 := Xe Mg.out 1; have hns9_0 := JP.out; have hms9_0 := Kz.out; have hs10 : w6.cell? ⟨FL, 2, none⟩ = some (.slice none 0 0) := bt Mg rfl; have hfs10 := Xe Mg.out 2; have hns10_0 := JP.out; have hms10_0 := Kz.out; refine SX (w1 := ?_) (by rfl) rfl ?_ ?_; rotate_left
 ·go_simp
  rfl
 refine hK.out _ _ ⟨((cell_far (p := ⟨FL, _, none⟩) JP.out _).trans (((cell_far (p := ⟨FL, _, none⟩) JP.out _).trans (((cell_far (p := ⟨FL, _, none⟩) JP.out _).trans (hHeld.1)))))), ((cell_far (p := ⟨FL, _, none⟩) JP.out _).trans (((cell_far (p := ⟨FL, _, none⟩) JP.out _).trans (((cell_far (p := ⟨FL, _, none⟩) JP.out _).trans (hHeld.2.1)))))), ((cell_far (p := ⟨FL, _, none⟩) JP.out _).trans (((cell_far (p := ⟨FL, _, none⟩) JP.out _).trans (((cell_far (p := ⟨FL, _, none⟩) JP.out _).trans (hHeld.2.2))))))⟩ (fun hHeld => ?_); clear hK K; refine YX (YA HT_.out zb6) ?_
 try go_wp2
 refine bodyPost_ret (results_cell_row rfl _ _ FL 56 #[.int .i64 Xu, .int .i64 Xy, .slice Ao7 Xck.length co7] (0, 0) _ rfl (by (with_reducible repeat (first | apply bn | apply bd | apply ba)); exact p3 Mg) Tryz.underlying56 rfl zb6) rfl ?_; exact ⟨_, zb4, by (with_reducible repeat (first | apply Kd.Yp | apply Kd.Y0 | apply Kd.YC)); exact Kd.XZ (Kd.YZ (p := ⟨FL, 2, none⟩) (Kd.YZ (p := ⟨FL, 1, none⟩) (Kd.YZ (p := ⟨FL, 0, none⟩) (Kd.ZY Xsm.out Mg.out (by decide)) (fun _ hk => hk.2) (.int .i64 Xu)) (fun _ hk => hk.2) (.int .i64 Xy)) (fun _ hk => hk.2) (.slice Ao7 Xck.length co7)) (fun _ hk => trivial), zb1⟩
def Zg.f (Xu : Int) (Xy : Int) (Xm : List Int) (Zd : Int) (Zk : Int) (Vd : Int) (YU : Int) (ZI : Int) (ZA : Int) (Ve : Int) (Vf : Int) : Option (Int × Int × List Int) := (Yf.f Xu Xy Xm).bind fun Bi => (if YU ≥ 0 then (if 0 ≤ YU then (if YU < (Bi.2.2.length : Int) then (some (Bi.1, Bi.2.1, (Bi.2.2.set (YU : Int).toNat ZA))) else (none)) else (none)) else (if ZA = 0 then (if 3 ≤ 35184372088832 then (some (Bi.1, 0, (List.replicate 3 0))) else (none)) else (some (Bi.1, ZA, Bi.2.2))))
end Go.Proofs.YtphnphmbfogmlaaGreat.Pr
