import Derived.Test.YtphnphmbfogmlaaGreatQEByq
import Derived.Test.YtphnphmbfogmlaaGreatQEPrK
import Derived.Test.YtphnphmbfogmlaaGreatQESx
import Derived.Test.YtphnphmbfogmlaaGreatQEPrInts
import Derived.Test.YtphnphmbfogmlaaGreatQEPrGood
import Derived.Test.YtphnphmbfogmlaaGreatQEPrWith
namespace Go.Proofs.YtphnphmbfogmlaaGreat.Pr
open Go.RowKit Go.PW Go.PL Go.PM
attribute [local go_sem] YO YP Zm Zn Yv Yw YQ YS
set_option linter.unusedVariables false
set_option linter.unusedSimpArgs false
abbrev Xrq : Array Bool := #[nn,nn,nn,nn,nn,nn,nn,nn,nn,nn,nn,nn,nn]
abbrev Xrr : Array Bool := #[yy,nn,nn,nn,nn,nn,nn,nn,nn,nn,nn,nn,nn]
abbrev Xrs : Array Bool := #[yy,nn,yy,nn,nn,nn,nn,nn,nn,nn,nn,nn,nn]
abbrev Xrt : Array Bool := #[yy,yy,yy,nn,nn,nn,nn,nn,nn,nn,nn,nn,nn]
abbrev Xru : Array Bool := #[yy,yy,yy,yy,nn,nn,nn,nn,nn,nn,nn,nn,nn]
abbrev Xrv : Array Bool := #[yy,yy,yy,yy,yy,nn,nn,nn,nn,nn,nn,nn,nn]
abbrev Xrw : Array Bool := #[yy,yy,yy,yy,yy,yy,nn,nn,nn,nn,nn,nn,nn]
abbrev Xrx : Array Bool := #[yy,yy,yy,yy,yy,yy,yy,nn,nn,nn,nn,nn,nn]
abbrev Xzj : Array Bool := #[yy,yy,yy,yy,yy,yy,yy,nn,yy,nn,nn,nn,nn]
abbrev Xzk : Array Bool := #[yy,yy,yy,yy,yy,yy,yy,yy,nn,nn,nn,nn,nn]
abbrev XnD : Array Bool := #[yy,yy,yy,yy,yy,yy,yy,yy,yy,nn,nn,nn,nn]
abbrev XnE : Array Bool := #[yy,yy,yy,yy,yy,yy,yy,yy,yy,yy,nn,nn,nn]
abbrev XnF : Array Bool := #[yy,yy,yy,yy,yy,yy,yy,yy,yy,yy,yy,nn,nn]
abbrev XnG : Array Bool := #[yy,yy,yy,yy,yy,yy,yy,yy,yy,yy,yy,yy,nn]
abbrev XnH : Array Bool := #[yy,yy,yy,yy,yy,yy,yy,yy,yy,yy,yy,yy,yy]
abbrev XvA : Array Bool := #[nn,nn,nn,nn,nn,nn,nn,nn,nn,nn,nn]
abbrev XvB : Array Bool := #[yy,nn,nn,nn,nn,nn,nn,nn,nn,nn,nn]
abbrev XvC : Array Bool := #[yy,yy,nn,nn,nn,nn,nn,nn,nn,nn,nn]
abbrev XvD : Array Bool := #[yy,yy,nn,yy,nn,nn,nn,nn,nn,nn,nn]
abbrev XvE : Array Bool := #[yy,yy,nn,yy,yy,nn,nn,nn,nn,nn,nn]
abbrev XvF : Array Bool := #[yy,yy,nn,yy,yy,yy,nn,nn,nn,nn,nn]
abbrev XvG : Array Bool := #[yy,yy,nn,yy,yy,yy,yy,nn,nn,nn,nn]
abbrev XvH : Array Bool := #[yy,yy,nn,yy,yy,yy,yy,yy,nn,nn,nn]
abbrev XvI : Array Bool := #[yy,yy,yy,yy,yy,yy,yy,nn,nn,nn,nn]
abbrev XvJ : Array Bool := #[yy,yy,nn,yy,yy,yy,yy,yy,yy,nn,nn]
abbrev XnI : Array Bool := #[yy,yy,yy,yy,yy,yy,yy,yy,nn,nn,nn]
abbrev OG : Array Bool := #[yy,yy,yy,yy,yy,yy,yy,yy,yy,nn,nn]
abbrev XvK : Array Bool := #[yy,yy,yy,yy,yy,yy,yy,yy,yy,yy,nn]
abbrev XvL : Array Bool := #[yy,yy,yy,yy,yy,yy,yy,yy,yy,yy,yy]
def Zf.f : Nat → Int → Option (ByteArray)
 | 0, _ => none
 | k + 1, a0 => if a0 < (-9223372036854775807) then (some (⟨#[45, 57, 50, 50, 51, 51, 55, 50, 48, 51, 54, 56, 53, 52, 55, 55, 53, 56, 48, 56]⟩ : ByteArray)) else (if a0 < 0 then ((Zf.f k (wrap64 (-a0))).bind fun EE => (if 1 + EE.size ≤ 9223372036854775807 then (some ((⟨#[45]⟩ : ByteArray) ++ EE)) else (none))) else (if a0 < 10 then (some (strOfNums (([(wrap64 (48 + a0)) % 256] : List Int)))) else ((Zf.f k (wrap64 (Int.tdiv a0 10))).bind fun Pp => ((some (([(wrap64 (48 + (Int.tmod a0 10))) % 256] : List Int) : List Int)).bind fun Pq => (if Pp.size + (strOfNums Pq).size ≤ 9223372036854775807 then (some (Pp ++ (strOfNums Pq))) else (none))))))
def Zf.T7 : Bool × List (List Nat × List Nat) := (true, [([], []), ([0], [0]), ([1], [1]), ([], []), ([3], [3]), ([4], [4]), ([5], [5]), ([6], [6]), ([7], [7]), ([2, 8], [2, 8]), ([9, 2, 0, 1, 2, 3, 4, 5, 6, 7, 8, 9], [9])])
def Zf.B7 : List Nat := [0, 1, 3, 0, 8, 24, 56, 120, 248, 511, 1023]
theorem Zf.Xzb : Ve .any (opsOf Tryz.f98 7) = Zf.T7 := by kernel_rfl
theorem Zf.Xrc : Ja Zf.T7.2 Zf.B7 = true := by kernel_rfl
set_option maxHeartbeats 8000000 in
set_option maxRecDepth 100000 in
theorem Zf.calls (k : Nat) : ∀ (a0 : Int) (r : ByteArray) (w : World) (h : Zf.f k a0 = some r),
 Calls Tryz.prog 98 #[.int .i64 a0] w fun e w' => e = .returned (.string r) ∧ Below w.heap.size w w' := by
 induction k using Nat.strongRecOn with
 | _ k ih =>
 intro a0 r w h
 cases k with
 | zero => exact absurd h (by simp [Zf.f])
 | succ k =>
 simp only [Zf.f] at h; have HB := az (Below.refl w.heap.size w); have H : (if a0 < (-9223372036854775807) then (some (⟨#[45, 57, 50, 50, 51, 51, 55, 50, 48, 51, 54, 56, 53, 52, 55, 55, 53, 56, 48, 56]⟩ : ByteArray)) else (if a0 < 0 then ((Zf.f k (wrap64 (-a0))).bind fun EE => (if 1 + EE.size ≤ 9223372036854775807 then (some ((⟨#[45]⟩ : ByteArray) ++ EE)) else (none))) else (if a0 < 10 then (some (strOfNums (([(wrap64 (48 + a0)) % 256] : List Int)))) else ((Zf.f k (wrap64 (Int.tdiv a0 10))).bind fun Pp => ((some (([(wrap64 (48 + (Int.tmod a0 10))) % 256] : List Int) : List Int)).bind fun Pq => (if Pp.size + (strOfNums Pq).size ≤ 9223372036854775807 then (some (Pp ++ (strOfNums Pq))) else (none))))))) = some r := h; clear h
 by_cases c2 : a0 < (-9223372036854775807)
 ·rw [if_pos c2] at H
  have c2b0 : decide (a0 < (-9223372036854775807)) = true := decide_eq_true c2; clear c2; obtain rfl := Option.some.inj H
  go_enter Tryz.func98, Tryz.ntmps98
  go_wp2
  go_ret
  exact ⟨zb4, zb1⟩
 ·rw [if_neg c2] at H
  have c2b0 : decide (a0 < (-9223372036854775807)) = false := decide_eq_false c2; clear c2
  by_cases c3 : a0 < 0
  ·rw [if_pos c3] at H
   have c3b0 : decide (a0 < 0) = true := decide_eq_true c3; clear c3; replace H := Option.bind_eq_some_iff.mp H; obtain ⟨EE, A40, H⟩ := H; replace H : (if 1 + EE.size ≤ 9223372036854775807 then (some ((⟨#[45]⟩ : ByteArray) ++ EE)) else (none)) = some r := H; have A4 := az A40; clear A40
   by_cases c5 : 1 + EE.size ≤ 9223372036854775807
   ·rw [if_pos c5] at H
    have c5b0 := eq_true c5; have c5b1 : decide (1 + EE.size ≤ 9223372036854775807) = true := decide_eq_true c5
    try have c5b2 : (9223372036854775807 < 1 + EE.size) = False := eq_false (Nat.not_lt.2 c5)
    obtain rfl := Option.some.inj H
    go_enter Tryz.func98, Tryz.ntmps98
    go_wp2_with (first | ((with_reducible refine Xi (f := 98) rfl ?_); refine XI (some 9) rfl rfl Tryz.func98 zb9 rfl #[.int .i64 (wrap64 (-a0))] rfl zb2 ?_; (with_reducible refine (ih k (by omega) (wrap64 (-a0)) EE _ A4.out).mono ?_); rintro e w6 ⟨rfl, hb⟩; refine ⟨_, rfl, ?_⟩; replace HB := az (Xc zb1 hb); (try clear hb); (try clear hb2); (try clear hk); (try clear hi)))
    go_ret
    exact ⟨zb4, zb1⟩
   ·rw [if_neg c5] at H
    exact absurd H (by simp)
  ·rw [if_neg c3] at H
   have c3b0 : decide (a0 < 0) = false := decide_eq_false c3; clear c3
   by_cases c7 : a0 < 10
   ·rw [if_pos c7] at H
    have c7b0 : decide (a0 < 10) = true := decide_eq_true c7; clear c7
    obtain ⟨y203, hy203⟩ : ∃ y_ : List Int, y_ = (([(wrap64 (48 + a0)) % 256] : List Int)) := ⟨_, rfl⟩
    replace H : (some (strOfNums y203)) = some r := by first | (rw [hy203]; with_reducible exact H) | (have H2_ := (Option.bind_some _ _).symm.trans H; rw [hy203]; with_reducible exact H2_) | (have H2_ := (Option.bind_some _ _).symm.trans H; with_reducible exact H2_) | with_reducible exact H | (rw [hy203]; exact H) | exact H
    have Ny203 := az hy203; clear hy203; obtain rfl := Option.some.inj H
    go_enter Tryz.func98, Tryz.ntmps98
    go_wp2_with (first | ((with_reducible refine Xn (N := 16) rfl ?_); refine Kd.XfQ (Kd.int .u8) _ 5 ?hg (N := 16) ?hd (xs := ([(wrap64 (48 + a0)) % 256] : List Int)) (inner := [.int .u8 ((wrap64 (48 + a0)) % 256)]) (ok := fun _ => True) (okp := fun _ => True) ?hr ?hp (fun _ hk => hk) trivial (Below.refl _ _) (Nat.le_refl _) (by simp) ?_; (case hd => rfl); (case hg => rfl); (case hr => exact zb10); (case hp => exact (ZJ.one (show Kd.M (Kd.int .u8) _ _ _ ((wrap64 (48 + a0)) % 256) [.int .u8 ((wrap64 (48 + a0)) % 256)] from rfl) (ZJ.none _ _))); intro v204 w8 ho9 hb hg_ hnew_; clear hg_ hnew_; (first | rw [← Ny203.out] at ho9 | (simp only [Int.reduceToNat] at ho9; rw [← Ny203.out] at ho9)); have X08 := az (Kd.Zh ho9 (Xv zb1)); replace HB := az (Xc zb1 hb); clear hb ho9; have hcv10 := Wp (P := Tryz.prog) Tryz.underlying107 Tryz.underlying5 Tryz.underlying9 (Kd.Uu X08.out)))
    go_ret
    exact ⟨zb4, zb1⟩
   ·rw [if_neg c7] at H
    have c7b0 : decide (a0 < 10) = false := decide_eq_false c7; clear c7; replace H := Option.bind_eq_some_iff.mp H; obtain ⟨Pp, Io, H⟩ := H; replace H : ((some (([(wrap64 (48 + (Int.tmod a0 10))) % 256] : List Int) : List Int)).bind fun Pq => (if Pp.size + (strOfNums Pq).size ≤ 9223372036854775807 then (some (Pp ++ (strOfNums Pq))) else (none))) = some r := H; have A11 := az Io; clear Io
    obtain ⟨Pq, hy207⟩ : ∃ y_ : List Int, y_ = (([(wrap64 (48 + (Int.tmod a0 10))) % 256] : List Int)) := ⟨_, rfl⟩
    replace H : (if Pp.size + (strOfNums Pq).size ≤ 9223372036854775807 then (some (Pp ++ (strOfNums Pq))) else (none)) = some r := by first | (rw [hy207]; with_reducible exact H) | (have H2_ := (Option.bind_some _ _).symm.trans H; rw [hy207]; with_reducible exact H2_) | (have H2_ := (Option.bind_some _ _).symm.trans H; with_reducible exact H2_) | with_reducible exact H | (rw [hy207]; exact H) | exact H
    have Ny207 := az hy207; clear hy207
    by_cases c12 : Pp.size + (strOfNums Pq).size ≤ 9223372036854775807
    ·rw [if_pos c12] at H
     have WQ := eq_true c12; have XaK : decide (Pp.size + (strOfNums Pq).size ≤ 9223372036854775807) = true := decide_eq_true c12
     try have c12b2 : (9223372036854775807 < Pp.size + (strOfNums Pq).size) = False := eq_false (Nat.not_lt.2 c12)
     obtain rfl := Option.some.inj H
     go_enter Tryz.func98, Tryz.ntmps98
     try go_wp2
     replace HB := az (wd HB.out); refine Y5 (n := 11) (S := fun w' => True) (ds := []) XvA zb9 rfl rfl trivial (fun hHeld => ?_); refine XV Zf.Xzb Zf.Xrc (fun HT_ HW_ => ?_); generalize w.drew = w13 at HB hHeld ⊢; refine pu 0 18 XvB HT_ ?_; refine pu 1 19 XvC HT_ ?_; refine pu 3 21 XvD HT_ ?_; refine pu 4 22 XvE HT_ ?_; refine pu 5 23 XvF HT_ ?_; refine pu 6 24 XvG HT_ ?_; refine XgR (σ := Value) 2 OG (fun s_ => [(20, .string Pp), (25, s_), (26, .string (strOfNums Pq))]) (fun s_ w' => (Kd.R (Kd.int .u8) 5 w' w.heap.size (fun _ => True) s_ Pq) ∧ (Below w.heap.size w w')) ?_ ?_; rotate_left
     ·intro hCont
      refine XoZ (i := 2) (j := 7) (Ni := some 20) (Nj := some 25) XvI XvH rfl rfl rfl rfl (QI HT_.out zb9) (by decide) (by decide) (fun K hK => ?_) (fun K hK => ?_)
      ·skip
       refine YW Tryz.func98 zb9 rfl #[.int .i64 (wrap64 (Int.tdiv a0 10))] (by rfl) rfl rfl zb2 ?_
       with_reducible refine (ih k (by omega) (wrap64 (Int.tdiv a0 10)) Pp _ A11.out).mono ?_
       rintro e w14 ⟨rfl, hb⟩; refine ⟨_, rfl, ?_⟩; replace HB := az (Xc zb1 hb)
       (try clear hb);(try clear hb2);(try clear hk);(try clear hi)
       refine hK.out _ _ trivial (fun hHeld => ?_); clear hK K; refine XZ (a' := ?_) ?_ ?_; rotate_left
       ·show Act.put _ (some 20) _ = _
        simp only [Act.put, List.setIfInBounds_toArray, List.set_cons_zero, List.set_cons_succ, X9, XK]
        rfl
       refine Zy (i := 7) (N := some 25) XnI rfl rfl (Y6 HT_.out zb9) (by decide) (fun K hK => ?_)
       refine Kd.TB (Kd.int .u8) _ 5 ?hg (N := 25) ?hd (xs := ([(wrap64 (48 + (Int.tmod a0 10))) % 256] : List Int)) (inner := [.int .u8 ((wrap64 (48 + (Int.tmod a0 10))) % 256)]) (ok := fun _ => True) (okp := fun _ => True) ?hr ?hp (fun _ hk => hk) trivial (Below.refl _ _) (Nat.le_refl _) (by simp) ?_; (case hd => rfl); (case hg => rfl); (case hr => exact zb10); (case hp => exact zb111)
       intro Xoq w15 ho16 hb hg_ hnew_; clear hg_ hnew_
       (first | rw [← Ny207.out] at ho16 | (simp only [Int.reduceToNat] at ho16; rw [← Ny207.out] at ho16))
       have Eh := az (Kd.Zh ho16 (Xv zb1)); replace HB := az (Xc zb1 hb); clear hb ho16; refine hK.out _ _ trivial (fun hHeld => ?_); clear hK K; refine XZ (a' := ?_) ?_ ?_; rotate_left
       ·show Act.put _ (some 25) _ = _
        simp only [Act.put, List.setIfInBounds_toArray, List.set_cons_zero, List.set_cons_succ, X9, XK]
        rfl
       refine Zy (i := 8) (N := some 26) OG rfl rfl (Y6 HT_.out zb9) (by decide) (fun K hK => ?_); have hcv17 := Wp (P := Tryz.prog) Tryz.underlying107 Tryz.underlying5 Tryz.underlying9 (Kd.Uu Eh.out); refine Xji (w1 := ?_) (v := ?_) (by rfl) rfl ?_ ?_; rotate_left 2
       ·go_simp
        constructor
        ·rfl
        ·rfl
       clear hcv17; refine hK.out _ _ trivial (fun hHeld => ?_); clear hK K; refine XZ (a' := ?_) ?_ ?_; rotate_left
       ·show Act.put _ (some 26) _ = _
        simp only [Act.put, List.setIfInBounds_toArray, List.set_cons_zero, List.set_cons_succ, X9, XK]
        rfl
       exact XZ zb23 (hCont (Xoq) _ ⟨zb65, zb1⟩)
      ·skip
       refine Kd.TB (Kd.int .u8) _ 5 ?hg (N := 25) ?hd (xs := ([(wrap64 (48 + (Int.tmod a0 10))) % 256] : List Int)) (inner := [.int .u8 ((wrap64 (48 + (Int.tmod a0 10))) % 256)]) (ok := fun _ => True) (okp := fun _ => True) ?hr ?hp (fun _ hk => hk) trivial (Below.refl _ _) (Nat.le_refl _) (by simp) ?_; (case hd => rfl); (case hg => rfl); (case hr => exact zb10); (case hp => exact zb111)
       intro Xoq w14 ho15 hb hg_ hnew_; clear hg_ hnew_
       (first | rw [← Ny207.out] at ho15 | (simp only [Int.reduceToNat] at ho15; rw [← Ny207.out] at ho15))
       have Eh := az (Kd.Zh ho15 (Xv zb1)); replace HB := az (Xc zb1 hb); clear hb ho15; refine hK.out _ _ trivial (fun hHeld => ?_); clear hK K; refine XZ (a' := ?_) ?_ ?_; rotate_left
       ·show Act.put _ (some 25) _ = _
        simp only [Act.put, List.setIfInBounds_toArray, List.set_cons_zero, List.set_cons_succ, X9, XK]
        rfl
       refine XoZ (i := 2) (j := 8) (Ni := some 20) (Nj := some 26) XnI XvJ rfl rfl rfl rfl (QI HT_.out zb9) (by decide) (by decide) (fun K hK => ?_) (fun K hK => ?_)
       ·skip
        refine YW Tryz.func98 zb9 rfl #[.int .i64 (wrap64 (Int.tdiv a0 10))] (by rfl) rfl rfl zb2 ?_
        with_reducible refine (ih k (by omega) (wrap64 (Int.tdiv a0 10)) Pp _ A11.out).mono ?_
        rintro e w16 ⟨rfl, hb⟩; refine ⟨_, rfl, ?_⟩; replace Eh := az (Kd.X3 zb65 hb); replace HB := az (Xc zb1 hb)
        (try clear hb);(try clear hb2);(try clear hk);(try clear hi)
        refine hK.out _ _ trivial (fun hHeld => ?_); clear hK K; refine XZ (a' := ?_) ?_ ?_; rotate_left
        ·show Act.put _ (some 20) _ = _
         simp only [Act.put, List.setIfInBounds_toArray, List.set_cons_zero, List.set_cons_succ, X9, XK]
         rfl
        refine Zy (i := 8) (N := some 26) OG rfl rfl (Y6 HT_.out zb9) (by decide) (fun K hK => ?_); have hcv17 := Wp (P := Tryz.prog) Tryz.underlying107 Tryz.underlying5 Tryz.underlying9 (Kd.Uu Eh.out); refine Xji (w1 := ?_) (v := ?_) (by rfl) rfl ?_ ?_; rotate_left 2
        ·go_simp
         constructor
         ·rfl
         ·rfl
        clear hcv17; refine hK.out _ _ trivial (fun hHeld => ?_); clear hK K; refine XZ (a' := ?_) ?_ ?_; rotate_left
        ·show Act.put _ (some 26) _ = _
         simp only [Act.put, List.setIfInBounds_toArray, List.set_cons_zero, List.set_cons_succ, X9, XK]
         rfl
        exact XZ zb23 (hCont (Xoq) _ ⟨zb65, zb1⟩)
       ·skip
        have hcv16 := Wp (P := Tryz.prog) Tryz.underlying107 Tryz.underlying5 Tryz.underlying9 (Kd.Uu Eh.out); refine Xji (w1 := ?_) (v := ?_) (by rfl) rfl ?_ ?_; rotate_left 2
        ·go_simp
         constructor
         ·rfl
         ·rfl
        clear hcv16; refine hK.out _ _ trivial (fun hHeld => ?_); clear hK K; refine XZ (a' := ?_) ?_ ?_; rotate_left
        ·show Act.put _ (some 26) _ = _
         simp only [Act.put, List.setIfInBounds_toArray, List.set_cons_zero, List.set_cons_succ, X9, XK]
         rfl
        refine Zy (i := 2) (N := some 20) OG rfl rfl (Y6 HT_.out zb9) (by decide) (fun K hK => ?_); refine YW Tryz.func98 zb9 rfl #[.int .i64 (wrap64 (Int.tdiv a0 10))] (by rfl) rfl rfl zb2 ?_
        with_reducible refine (ih k (by omega) (wrap64 (Int.tdiv a0 10)) Pp _ A11.out).mono ?_
        rintro e w17 ⟨rfl, hb⟩; refine ⟨_, rfl, ?_⟩; replace Eh := az (Kd.X3 zb65 hb); replace HB := az (Xc zb1 hb)
        (try clear hb);(try clear hb2);(try clear hk);(try clear hi)
        refine hK.out _ _ trivial (fun hHeld => ?_); clear hK K; refine XZ (a' := ?_) ?_ ?_; rotate_left
        ·show Act.put _ (some 20) _ = _
         simp only [Act.put, List.setIfInBounds_toArray, List.set_cons_zero, List.set_cons_succ, X9, XK]
         rfl
        exact XZ zb23 (hCont (Xoq) _ ⟨zb65, zb1⟩)
     rintro Xoq w18 ⟨h0_, h1_⟩
     have Eh : Aside0 (Kd.R (Kd.int .u8) 5 w18 w.heap.size (fun _ => True) Xoq Pq) := ⟨h0_⟩
     replace HB : Aside0 (Below w.heap.size w w18) := ⟨h1_⟩
     clear h0_ h1_; have hHeld := trivial; refine XZ (a' := ?_) ?_ ?_; rotate_left
     ·simp only [Wh, Act.put, List.setIfInBounds_toArray, List.set_cons_zero, List.set_cons_succ]
      rfl
     refine pu 9 27 XvK HT_ ?_; refine pu 10 2 XvL HT_ ?_; refine Zl (YT HT_.out zb9) ?_
     try go_wp2
     go_ret
     exact ⟨zb4, zb1⟩
    ·rw [if_neg c12] at H
     exact absurd H (by simp)
def Yk.l0 : Nat → ByteArray → Int → Int → Int → List Int → Option (ByteArray)
 | 0, _, _, _, _, _ => none
 | k + 1, x3, x4, Xu4, Xu5, Xej => if x4 < (Xej.length : Int) then (if x3.size + 1 ≤ 9223372036854775807 then (if 0 ≤ x4 then ((Zf.f k (rd Xej x4)).bind fun IC => (if (x3 ++ (⟨#[32]⟩ : ByteArray)).size + IC.size ≤ 9223372036854775807 then (Yk.l0 k ((x3 ++ (⟨#[32]⟩ : ByteArray)) ++ IC) (wrap64 (x4 + 1)) Xu4 Xu5 Xej) else (none))) else (none)) else (none)) else (some x3)
def Yk.f (k : Nat) (X4 : Int) (XB : Int) (Xe : List Int) : Option (ByteArray) := (XM.f k X4 XB Xe).bind fun Xor => (if Xor = true then ((Zf.f k XB).bind fun IE => (Yk.l0 k IE 0 X4 XB Xe)) else (some (⟨#[]⟩ : ByteArray)))
set_option maxHeartbeats 8000000 in
set_option maxRecDepth 100000 in
theorem Yk.calls (k : Nat) (X4 : Int) (XB : Int) (XE : Option Addr) (XF : Nat) (Xe : List Int) (r : ByteArray) (w : World) (hr0_2 : Kd.C (Kd.int .i64) w XE Xe.length Xe) (hc0_2 : Xe.length ≤ XF) (h : Yk.f k X4 XB Xe = some r) :
 Calls Tryz.prog 75 #[.agg #[.int .i64 X4, .int .i64 XB, .slice XE Xe.length XF]] w fun e w' => e = .returned (.string r) ∧ Below w.heap.size w w' := by
 have hu56 := Tryz.underlying56; have VU := az hr0_2; have DY := az hc0_2; clear hr0_2 hc0_2; have HB := az (Below.refl w.heap.size w); have H : ((XM.f k X4 XB Xe).bind fun Xor => (if Xor = true then ((Zf.f k XB).bind fun IE => (Yk.l0 k IE 0 X4 XB Xe)) else (some (⟨#[]⟩ : ByteArray)))) = some r := h; clear h; replace H := Option.bind_eq_some_iff.mp H; obtain ⟨Xor, A20, H⟩ := H; replace H : (if Xor = true then ((Zf.f k XB).bind fun IE => (Yk.l0 k IE 0 X4 XB Xe)) else (some (⟨#[]⟩ : ByteArray))) = some r := H; have A2 := az A20; clear A20
 by_cases c3 : Xor = true
 ·subst c3
  have H1 : ((Zf.f k XB).bind fun IE => (Yk.l0 k IE 0 X4 XB Xe)) = some r := by rw [if_pos rfl] at H; exact H
  clear H; have H := H1; clear H1; replace H := Option.bind_eq_some_iff.mp H; obtain ⟨IE, A40, H⟩ := H; replace H : (Yk.l0 k IE 0 X4 XB Xe) = some r := H; have A4 := az A40; clear A40; have H' := az H; clear H
  go_enter Tryz.func75, Tryz.ntmps75
  go_wp2_with (first | ((with_reducible refine Xn (N := 1) rfl ?_); refine Xl ?hg (N := 1) ?hd (cs := #[.int .i64 X4, .int .i64 XB, .slice XE Xe.length XF]) (t := 56) ?hr ?_; (case hd => rfl); (case hg => rfl); (case hr => exact zb10); intro XlE hg w5 hbox hb; have Vx := az (hbox); have Xqv := az ((zb129 : w.heap.size ≤ XlE)); have X09 := Xqv; replace HB := az (Xc zb1 hb); clear hb hbox hg; obtain ⟨WR, WS, WT⟩ := cz3 Vx; have WU := Xd Vx.out 0; have WV := Xd Vx.out 1; have WW := Xd Vx.out 2) | ((with_reducible refine Xi (f := 70) rfl ?_); refine XI (some 6) rfl rfl Tryz.func70 zb9 rfl #[.agg #[.int .i64 X4, .int .i64 XB, .slice XE Xe.length XF]] rfl zb2 ?_; (with_reducible refine (XM.calls k X4 XB _ _ Xe true _ ?side1 ?side2 A2.out).mono ?_); (case side1 => exact zb5); (case side2 => exact zb92); rintro e w7 ⟨rfl, hb⟩; refine ⟨_, rfl, ?_⟩; replace Vx := bb Vx (fun h => by (with_reducible repeat (first | apply bn | apply bd | apply ba)); exact h) hb; replace HB := az (Xc zb0 hb); (try clear hb); (try clear hb2); (try clear hk); (try clear hi); obtain ⟨Fp, Fq, Fs⟩ := cz3 Vx; have Fu := Xd Vx.out 0; have Fv := Xd Vx.out 1; have Fw := Xd Vx.out 2) | ((with_reducible refine Xi (f := 98) rfl ?_); refine XI (some 10) rfl rfl Tryz.func98 zb9 rfl #[.int .i64 XB] rfl zb2 ?_; (with_reducible refine (Zf.calls k XB IE _ A4.out).mono ?_); rintro e w9 ⟨rfl, hb⟩; refine ⟨_, rfl, ?_⟩; replace Vx := bb Vx (fun h => by (with_reducible repeat (first | apply bn | apply bd | apply ba)); exact h) hb; replace HB := az (Xc zb0 hb); (try clear hb); (try clear hb2); (try clear hk); (try clear hi)))
  go_loopg [3, 4] k (fun kq v3 v4 w' => ∃ (Xt : ByteArray) (XG : Int), v3 = .string Xt ∧ v4 = .int .i64 XG ∧ Aside0 (Yk.l0 kq Xt XG X4 XB Xe = some r) ∧ Aside0 (kq ≤ k) ∧ Aside0 (w'.heap[XlE]? = some (.cells #[.int .i64 X4, .int .i64 XB, (.slice XE Xe.length XF)] 56 (0, 0))) ∧ Aside0 (Below w.heap.size w w'))
  case atStart => exact ⟨(IE), (0), zb6, zb6, H', ⟨Nat.le_refl _⟩, ⟨by (with_reducible repeat (first | apply bn | apply bd | apply ba)); exact Vx.out⟩, ⟨zb0⟩⟩
  case round =>
   clear H';(try clear p2);(try clear c3);(try clear c7);(try clear c9);(try clear WR);(try clear WS);(try clear WT);(try clear Fp);(try clear Fq);(try clear Fs);(try clear WU);(try clear WV);(try clear WW);(try clear Fu);(try clear Fv);(try clear Fw)
   obtain ⟨Xt, XG, rfl, rfl, HA, HK1, Vx, HB⟩ := hrel
   cases gk with
   | zero => exact absurd HA.out (by simp [Yk.l0])
   | succ k1 =>
    have H := HA.out; clear HA; simp only [Yk.l0] at H
    by_cases c10 : XG < (Xe.length : Int)
    ·rw [if_pos c10] at H
     have Vu : decide (XG < (Xe.length : Int)) = true := decide_eq_true c10; clear c10
     by_cases c11 : Xt.size + 1 ≤ 9223372036854775807
     ·rw [if_pos c11] at H
      have OT := eq_true c11; have Xw0 : decide (Xt.size + 1 ≤ 9223372036854775807) = true := decide_eq_true c11
      try have Xw1 : (9223372036854775807 < Xt.size + 1) = False := eq_false (Nat.not_lt.2 c11)
      by_cases c12 : 0 ≤ XG
      ·rw [if_pos c12] at H
       have WQ : decide (0 ≤ XG) = true := decide_eq_true c12; clear c12; replace H := Option.bind_eq_some_iff.mp H; obtain ⟨IC, OU, H⟩ := H; replace H : (if (Xt ++ (⟨#[32]⟩ : ByteArray)).size + IC.size ≤ 9223372036854775807 then (Yk.l0 k1 ((Xt ++ (⟨#[32]⟩ : ByteArray)) ++ IC) (wrap64 (XG + 1)) X4 XB Xe) else (none)) = some r := H; have A13 := az OU; clear OU
       by_cases c14 : (Xt ++ (⟨#[32]⟩ : ByteArray)).size + IC.size ≤ 9223372036854775807
       ·rw [if_pos c14] at H
        have XpK := eq_true c14; have c14b1 : decide ((Xt ++ (⟨#[32]⟩ : ByteArray)).size + IC.size ≤ 9223372036854775807) = true := decide_eq_true c14
        try have c14b2 : (9223372036854775807 < (Xt ++ (⟨#[32]⟩ : ByteArray)).size + IC.size) = False := eq_false (Nat.not_lt.2 c14)
        have c14z : Xt.size + 1 + IC.size ≤ 9223372036854775807 := by have h_ := c14; simp only [ByteArray.size_append] at h_; exact h_
        have c14y := eq_false (Nat.not_lt.2 c14z); have c14x := decide_eq_true c14z; clear c14z; have H' := az H; clear H; obtain ⟨Rl, Rm, Rn⟩ := cz3 Vx; obtain ⟨Ro, Rp, Rq⟩ := fz3 Vx; have Xyh : 0 ≤ (XG : Int) := of_decide_eq_true zb3; have Xyi : XG < (Xe.length : Int) := of_decide_eq_true zb3; obtain ⟨ad213, e213, Xek⟩ := Kd.Jh VU.out XG Xyh Xyi
        cases e213
        replace Xek := (HB.out.cell (World.block_lt_of_cell? w _ Xek)).trans Xek; replace Xyh := eq_true Xyh; replace Xyi := eq_true Xyi
        go_wp2_with (first | ((with_reducible refine Xi (f := 98) rfl ?_); refine XI (some 25) rfl rfl Tryz.func98 zb9 rfl #[.int .i64 (rd Xe XG)] rfl zb2 ?_; (with_reducible refine (Zf.calls k1 (rd Xe XG) IC _ A13.out).mono ?_); rintro e w16 ⟨rfl, hb⟩; refine ⟨_, rfl, ?_⟩; replace Vx := bb Vx (fun h => by (with_reducible repeat (first | apply bn | apply bd | apply ba)); exact h) hb; replace HB := az (Xc zb0 hb); (try clear hb); (try clear hb2); (try clear hk); (try clear hi)))
        go_roundg k1
        case measure => have := HK1.out; omega
        case rel => exact ⟨((Xt ++ (⟨#[32]⟩ : ByteArray)) ++ IC), (wrap64 (XG + 1)), zb6, zb6, H', ⟨zb37⟩, ⟨by (with_reducible repeat (first | apply bn | apply bd | apply ba)); exact Vx.out⟩, ⟨zb0⟩⟩
       ·rw [if_neg c14] at H
        exact absurd H (by simp)
      ·rw [if_neg c12] at H
       exact absurd H (by simp)
     ·rw [if_neg c11] at H
      exact absurd H (by simp)
    ·rw [if_neg c10] at H
     have Vu : decide (XG < (Xe.length : Int)) = false := decide_eq_false c10; clear c10; obtain rfl := Option.some.inj H; obtain ⟨Kg, Kh, Ki⟩ := cz3 Vx; obtain ⟨Kj, Kk, Kl⟩ := fz3 Vx
     go_wp2
     go_ret
     exact ⟨zb4, zb0⟩
 ·replace c3 := Bool.eq_false_iff.mpr c3
  subst c3
  have H1 : (some (⟨#[]⟩ : ByteArray)) = some r := by rw [if_neg (show ¬ (false = true) by decide)] at H; exact H
  clear H; have H := H1; clear H1; obtain rfl := Option.some.inj H
  go_enter Tryz.func75, Tryz.ntmps75
  go_wp2_with (first | ((with_reducible refine Xn (N := 1) rfl ?_); refine Xl ?hg (N := 1) ?hd (cs := #[.int .i64 X4, .int .i64 XB, .slice XE Xe.length XF]) (t := 56) ?hr ?_; (case hd => rfl); (case hg => rfl); (case hr => exact zb10); intro XlE hg w18 hbox hb; have Vx := az (hbox); have Xqv := az ((zb129 : w.heap.size ≤ XlE)); have X09 := Xqv; replace HB := az (Xc zb1 hb); clear hb hbox hg; obtain ⟨Gp, Gq, Gr⟩ := cz3 Vx; have Gs := Xd Vx.out 0; have Gt := Xd Vx.out 1; have Gu := Xd Vx.out 2) | ((with_reducible refine Xi (f := 70) rfl ?_); refine XI (some 6) rfl rfl Tryz.func70 zb9 rfl #[.agg #[.int .i64 X4, .int .i64 XB, .slice XE Xe.length XF]] rfl zb2 ?_; (with_reducible refine (XM.calls k X4 XB _ _ Xe false _ ?side1 ?side2 A2.out).mono ?_); (case side1 => exact zb5); (case side2 => exact zb92); rintro e w20 ⟨rfl, hb⟩; refine ⟨_, rfl, ?_⟩; replace Vx := bb Vx (fun h => by (with_reducible repeat (first | apply bn | apply bd | apply ba)); exact h) hb; replace HB := az (Xc zb0 hb); (try clear hb); (try clear hb2); (try clear hk); (try clear hi)))
  go_ret
  exact ⟨zb4, zb0⟩
def YV.f (k : Nat) (X4 : Int) (XB : Int) (Xe : List Int) (Zu : Int) (Z5 : Int) (ZT : List Int) : Option (Bool) := if X4 = Zu then ((Yk.f k X4 XB Xe).bind fun Xil => ((Yk.f k Zu Z5 ZT).bind fun t218 => (some (Xil.toList == t218.toList)))) else (some false)
def YV.T1 : Bool × List (List Nat × List Nat) := (true, [([], []), ([0], [0]), ([], []), ([2], [2]), ([1, 3], [1, 3]), ([4], [4]), ([5], [5]), ([6, 5, 5], [5, 6]), ([5], [5]), ([8, 7, 5], [5, 8]), ([7, 9, 5], [5, 7, 9]), ([5, 10], [5, 10]), ([11, 9, 0, 1, 2, 3, 4, 5, 6, 7, 8, 9, 10, 11], [11])])
def YV.B1 : List Nat := [0, 1, 0, 4, 15, 31, 63, 127, 63, 511, 1023, 2047, 4095]
theorem YV.EH : Ve .any (opsOf Tryz.f46 1) = YV.T1 := by kernel_rfl
theorem YV.Ww : Ja YV.T1.2 YV.B1 = true := by kernel_rfl
set_option maxHeartbeats 8000000 in
set_option maxRecDepth 100000 in
theorem YV.calls (k : Nat) (X4 : Int) (XB : Int) (XE : Option Addr) (XF : Nat) (Xe : List Int) (Zu : Int) (Z5 : Int) (Dr : Option Addr) (Dt : Nat) (ZT : List Int) (r : Bool) (w : World) (hr0_2 : Kd.C (Kd.int .i64) w XE Xe.length Xe) (hc0_2 : Xe.length ≤ XF) (hr1_2 : Kd.C (Kd.int .i64) w Dr ZT.length ZT) (hc1_2 : ZT.length ≤ Dt) (h : YV.f k X4 XB Xe Zu Z5 ZT = some r) :
 Calls Tryz.prog 46 #[.agg #[.int .i64 X4, .int .i64 XB, .slice XE Xe.length XF], .agg #[.int .i64 Zu, .int .i64 Z5, .slice Dr ZT.length Dt]] w fun e w' => e = .returned (.bool r) ∧ Below w.heap.size w w' := by
 have hu56 := Tryz.underlying56; have VU := az hr0_2; have DY := az hc0_2; clear hr0_2 hc0_2; have Xjv := az hr1_2; have Ps := az hc1_2; clear hr1_2 hc1_2; have HB := az (Below.refl w.heap.size w); have H : (if X4 = Zu then ((Yk.f k X4 XB Xe).bind fun Xil => ((Yk.f k Zu Z5 ZT).bind fun t218 => (some (Xil.toList == t218.toList)))) else (some false)) = some r := h; clear h
 by_cases c3 : X4 = Zu
 ·rw [if_pos c3] at H
  have c3b0 : (X4 == Zu) = true := beq_iff_eq.mpr c3; have c3b1 : (X4 != Zu) = false := bne_eq_false_iff_eq.mpr c3; clear c3; replace H := Option.bind_eq_some_iff.mp H; obtain ⟨Xil, A40, H⟩ := H; replace H : ((Yk.f k Zu Z5 ZT).bind fun t218 => (some (Xil.toList == t218.toList))) = some r := H; have A4 := az A40; clear A40; replace H := Option.bind_eq_some_iff.mp H; obtain ⟨t218, A50, H⟩ := H; replace H : (some (Xil.toList == t218.toList)) = some r := H; have A5 := az A50; clear A50; obtain rfl := Option.some.inj H
  go_enter Tryz.func46, Tryz.ntmps46
  try go_wp2_with (first | ((with_reducible refine Xn (N := 2) rfl ?_); refine Xl ?hg (N := 2) ?hd (cs := #[.int .i64 X4, .int .i64 XB, .slice XE Xe.length XF]) (t := 56) ?hr ?_; (case hd => rfl); (case hg => rfl); (case hr => exact zb10); intro Rw hg w6 hbox hb; have Vk := az (hbox); have Xqw := az ((zb129 : w.heap.size ≤ Rw)); have X0A := Xqw; replace HB := az (Xc zb1 hb); clear hb hbox hg) | ((with_reducible refine Xn (N := 3) rfl ?_); refine Xl ?hg (N := 3) ?hd (cs := #[.int .i64 Zu, .int .i64 Z5, .slice Dr ZT.length Dt]) (t := 56) ?hr ?_; (case hd => rfl); (case hg => rfl); (case hr => exact zb10); intro Rx hg w7 hbox hb; have Du := az (hbox); have Xqx := az ((zb131 : w.heap.size ≤ Rx)); have X0B := Xqx; replace HB := az (Xc zb0 hb); obtain ⟨Xos, Xot⟩ := nb Vk hg (fun h => by (with_reducible repeat (first | apply bn | apply bd | apply ba)); exact h); replace Vk := bb Vk (fun h => by (with_reducible repeat (first | apply bn | apply bd | apply ba)); exact h) hb; clear hb hbox hg))
  replace Vk := az (XL Vk.out); replace Du := az (XL Du.out); replace HB := az (wd HB.out); refine Y5 (n := 13) (S := fun w' => w'.cell? ⟨Rw, 0, none⟩ = some (.int .i64 X4) ∧ w'.cell? ⟨Rw, 1, none⟩ = some (.int .i64 XB) ∧ w'.cell? ⟨Rw, 2, none⟩ = some (.slice XE Xe.length XF) ∧ w'.cell? ⟨Rx, 0, none⟩ = some (.int .i64 Zu) ∧ w'.cell? ⟨Rx, 1, none⟩ = some (.int .i64 Z5) ∧ w'.cell? ⟨Rx, 2, none⟩ = some (.slice Dr ZT.length Dt)) (ds := []) Xrq zb9 rfl rfl ⟨bt Vk rfl, bt Vk rfl, bt Vk rfl, bt Du rfl, bt Du rfl, bt Du rfl⟩ (fun hHeld => ?_); refine XV YV.EH YV.Ww (fun HT_ HW_ => ?_); generalize w7.drew = w8 at Vk Du HB hHeld ⊢; refine pu 0 5 Xrr HT_ ?_; refine pu 2 7 Xrs HT_ ?_; refine tk 1 6 Xrt HT_ HW_ hHeld ?_; refine tk 3 8 Xru HT_ HW_ hHeld ?_; refine pu 4 9 Xrv HT_ ?_; refine pu 5 10 Xrw HT_ ?_; refine tk 6 11 Xrx HT_ HW_ hHeld ?_; refine tk 8 13 Xzj HT_ HW_ hHeld ?_; refine Zy (i := 7) (N := some 12) XnD rfl rfl (Y6 HT_.out zb9) (by decide) (fun K hK => ?_); refine YW Tryz.func75 zb9 rfl #[.agg #[.int .i64 X4, .int .i64 XB, .slice XE Xe.length XF]] (by rfl) rfl rfl zb2 ?_
  with_reducible refine (Yk.calls k X4 XB _ _ Xe Xil _ ?side1 ?side2 A4.out).mono ?_
  (case side1 => exact zb5)
  (case side2 => exact zb92)
  rintro e w9 ⟨rfl, hb⟩; refine ⟨_, rfl, ?_⟩; replace Vk := bb Vk (fun h => by (with_reducible repeat (first | apply bn | apply bd | apply ba)); exact h) hb; replace Du := bb Du (fun h => by (with_reducible repeat (first | apply bn | apply bd | apply ba)); exact h) hb; replace HB := az (Xc zb0 hb)
  (try clear hb);(try clear hb2);(try clear hk);(try clear hi)
  refine hK.out _ _ ⟨bt Vk rfl, bt Vk rfl, bt Vk rfl, bt Du rfl, bt Du rfl, bt Du rfl⟩ (fun hHeld => ?_); clear hK K; refine XZ (a' := ?_) ?_ ?_; rotate_left
  ·show Act.put _ (some 12) _ = _
   simp only [Act.put, List.setIfInBounds_toArray, List.set_cons_zero, List.set_cons_succ, X9, XK]
   rfl
  refine Zy (i := 9) (N := some 14) XnE rfl rfl (Y6 HT_.out zb9) (by decide) (fun K hK => ?_); refine YW Tryz.func75 zb9 rfl #[.agg #[.int .i64 Zu, .int .i64 Z5, .slice Dr ZT.length Dt]] (by rfl) rfl rfl zb2 ?_
  with_reducible refine (Yk.calls k Zu Z5 _ _ ZT t218 _ ?side1 ?side2 A5.out).mono ?_
  (case side1 => exact zb19)
  (case side2 => exact Ps.out)
  rintro e w10 ⟨rfl, hb⟩; refine ⟨_, rfl, ?_⟩; replace Vk := bb Vk (fun h => by (with_reducible repeat (first | apply bn | apply bd | apply ba)); exact h) hb; replace Du := bb Du (fun h => by (with_reducible repeat (first | apply bn | apply bd | apply ba)); exact h) hb; replace HB := az (Xc zb0 hb)
  (try clear hb);(try clear hb2);(try clear hk);(try clear hi)
  refine hK.out _ _ ⟨bt Vk rfl, bt Vk rfl, bt Vk rfl, bt Du rfl, bt Du rfl, bt Du rfl⟩ (fun hHeld => ?_); clear hK K; refine XZ (a' := ?_) ?_ ?_; rotate_left
  ·show Act.put _ (some 14) _ = _
   simp only [Act.put, List.setIfInBounds_toArray, List.set_cons_zero, List.set_cons_succ, X9, XK]
   rfl
  refine pu 10 15 XnF HT_ ?_; refine pu 11 16 XnG HT_ ?_; refine pu 12 4 XnH HT_ ?_; refine Zl (YT HT_.out zb9) ?_
  try go_wp2
  go_ret
  exact ⟨zb4, zb0⟩
 ·rw [if_neg c3] at H
  have c3b0 : (X4 == Zu) = false := beq_eq_false_iff_ne.mpr c3; have c3b1 : (X4 != Zu) = true := bne_iff_ne.mpr c3; obtain rfl := Option.some.inj H
  go_enter Tryz.func46, Tryz.ntmps46
  try go_wp2_with (first | ((with_reducible refine Xn (N := 2) rfl ?_); refine Xl ?hg (N := 2) ?hd (cs := #[.int .i64 X4, .int .i64 XB, .slice XE Xe.length XF]) (t := 56) ?hr ?_; (case hd => rfl); (case hg => rfl); (case hr => exact zb10); intro Rw hg w11 hbox hb; have Vk := az (hbox); have Xqw := az ((zb129 : w.heap.size ≤ Rw)); have X0A := Xqw; replace HB := az (Xc zb1 hb); clear hb hbox hg) | ((with_reducible refine Xn (N := 3) rfl ?_); refine Xl ?hg (N := 3) ?hd (cs := #[.int .i64 Zu, .int .i64 Z5, .slice Dr ZT.length Dt]) (t := 56) ?hr ?_; (case hd => rfl); (case hg => rfl); (case hr => exact zb10); intro Rx hg w12 hbox hb; have Du := az (hbox); have Xqx := az ((zb131 : w.heap.size ≤ Rx)); have X0B := Xqx; replace HB := az (Xc zb0 hb); obtain ⟨Xos, Xot⟩ := nb Vk hg (fun h => by (with_reducible repeat (first | apply bn | apply bd | apply ba)); exact h); replace Vk := bb Vk (fun h => by (with_reducible repeat (first | apply bn | apply bd | apply ba)); exact h) hb; clear hb hbox hg))
  replace Vk := az (XL Vk.out); replace Du := az (XL Du.out); replace HB := az (wd HB.out); refine Y5 (n := 13) (S := fun w' => w'.cell? ⟨Rw, 0, none⟩ = some (.int .i64 X4) ∧ w'.cell? ⟨Rw, 1, none⟩ = some (.int .i64 XB) ∧ w'.cell? ⟨Rw, 2, none⟩ = some (.slice XE Xe.length XF) ∧ w'.cell? ⟨Rx, 0, none⟩ = some (.int .i64 Zu) ∧ w'.cell? ⟨Rx, 1, none⟩ = some (.int .i64 Z5) ∧ w'.cell? ⟨Rx, 2, none⟩ = some (.slice Dr ZT.length Dt)) (ds := []) Xrq zb9 rfl rfl ⟨bt Vk rfl, bt Vk rfl, bt Vk rfl, bt Du rfl, bt Du rfl, bt Du rfl⟩ (fun hHeld => ?_); refine XV YV.EH YV.Ww (fun HT_ HW_ => ?_); generalize w12.drew = w13 at Vk Du HB hHeld ⊢; refine pu 0 5 Xrr HT_ ?_; refine pu 2 7 Xrs HT_ ?_; refine tk 1 6 Xrt HT_ HW_ hHeld ?_; refine tk 3 8 Xru HT_ HW_ hHeld ?_; refine pu 4 9 Xrv HT_ ?_; refine pu 5 10 Xrw HT_ ?_; refine pn 6 11 Xrx HT_ ?_; refine pn 7 12 Xzk HT_ ?_; refine pn 8 13 XnD HT_ ?_; refine pn 9 14 XnE HT_ ?_; refine pn 10 15 XnF HT_ ?_; refine pu 11 16 XnG HT_ ?_; refine pu 12 4 XnH HT_ ?_; refine Zl (YT HT_.out zb9) ?_
  try go_wp2
  go_ret
  exact ⟨zb4, zb0⟩
end Go.Proofs.YtphnphmbfogmlaaGreat.Pr
