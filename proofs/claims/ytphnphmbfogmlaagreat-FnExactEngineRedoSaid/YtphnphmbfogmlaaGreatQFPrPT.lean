import Derived.Test.YtphnphmbfogmlaaGreatQFByq
import Derived.Test.YtphnphmbfogmlaaGreatQFPrK
import Derived.Test.YtphnphmbfogmlaaGreatQFSx
import Derived.Test.YtphnphmbfogmlaaGreatQFPrInts
import Derived.Test.YtphnphmbfogmlaaGreatQFPrWith
import Derived.Test.YtphnphmbfogmlaaGreatQFPrCps
namespace Go.Proofs.YtphnphmbfogmlaaGreat.Pr
open Go.RowKit Go.PW Go.PL Go.PM
attribute [local go_sem] Y3 Y4 YN YO Ya Yb Y5 Y6
set_option linter.unusedVariables false
set_option linter.unusedSimpArgs false
abbrev Xnd : Array Bool := #[nn,nn,nn,nn,nn,nn,nn,nn,nn,nn,nn,nn,nn]
abbrev Xne : Array Bool := #[yy,nn,nn,nn,nn,nn,nn,nn,nn,nn,nn,nn,nn]
abbrev Xnf : Array Bool := #[yy,nn,yy,nn,nn,nn,nn,nn,nn,nn,nn,nn,nn]
abbrev Xng : Array Bool := #[yy,yy,yy,nn,nn,nn,nn,nn,nn,nn,nn,nn,nn]
abbrev Xnh : Array Bool := #[yy,yy,yy,yy,nn,nn,nn,nn,nn,nn,nn,nn,nn]
abbrev Xni : Array Bool := #[yy,yy,yy,yy,yy,nn,nn,nn,nn,nn,nn,nn,nn]
abbrev Xnj : Array Bool := #[yy,yy,yy,yy,yy,yy,nn,nn,nn,nn,nn,nn,nn]
abbrev Xnk : Array Bool := #[yy,yy,yy,yy,yy,yy,yy,nn,nn,nn,nn,nn,nn]
abbrev Xu1 : Array Bool := #[yy,yy,yy,yy,yy,yy,yy,nn,yy,nn,nn,nn,nn]
abbrev Xu2 : Array Bool := #[yy,yy,yy,yy,yy,yy,yy,yy,nn,nn,nn,nn,nn]
abbrev XjR : Array Bool := #[yy,yy,yy,yy,yy,yy,yy,yy,yy,nn,nn,nn,nn]
abbrev XjS : Array Bool := #[yy,yy,yy,yy,yy,yy,yy,yy,yy,yy,nn,nn,nn]
abbrev XjT : Array Bool := #[yy,yy,yy,yy,yy,yy,yy,yy,yy,yy,yy,nn,nn]
abbrev XjU : Array Bool := #[yy,yy,yy,yy,yy,yy,yy,yy,yy,yy,yy,yy,nn]
abbrev XjV : Array Bool := #[yy,yy,yy,yy,yy,yy,yy,yy,yy,yy,yy,yy,yy]
abbrev Xru : Array Bool := #[nn,nn,nn,nn,nn,nn,nn,nn,nn,nn,nn]
abbrev Xrv : Array Bool := #[yy,nn,nn,nn,nn,nn,nn,nn,nn,nn,nn]
abbrev Xrw : Array Bool := #[yy,yy,nn,nn,nn,nn,nn,nn,nn,nn,nn]
abbrev Xrx : Array Bool := #[yy,yy,nn,yy,nn,nn,nn,nn,nn,nn,nn]
abbrev Xry : Array Bool := #[yy,yy,nn,yy,yy,nn,nn,nn,nn,nn,nn]
abbrev Xrz : Array Bool := #[yy,yy,nn,yy,yy,yy,nn,nn,nn,nn,nn]
abbrev Xr0 : Array Bool := #[yy,yy,nn,yy,yy,yy,yy,nn,nn,nn,nn]
abbrev Xr1 : Array Bool := #[yy,yy,nn,yy,yy,yy,yy,yy,nn,nn,nn]
abbrev Xr2 : Array Bool := #[yy,yy,yy,yy,yy,yy,yy,nn,nn,nn,nn]
abbrev Xr3 : Array Bool := #[yy,yy,nn,yy,yy,yy,yy,yy,yy,nn,nn]
abbrev XjW : Array Bool := #[yy,yy,yy,yy,yy,yy,yy,yy,nn,nn,nn]
abbrev RQ : Array Bool := #[yy,yy,yy,yy,yy,yy,yy,yy,yy,nn,nn]
abbrev Xr4 : Array Bool := #[yy,yy,yy,yy,yy,yy,yy,yy,yy,yy,nn]
abbrev Xr5 : Array Bool := #[yy,yy,yy,yy,yy,yy,yy,yy,yy,yy,yy]
def YQ.f : Nat → Int → Option (ByteArray)
 | 0, _ => none
 | k + 1, a0 => if a0 < (-9223372036854775807) then (some (⟨#[45, 57, 50, 50, 51, 51, 55, 50, 48, 51, 54, 56, 53, 52, 55, 55, 53, 56, 48, 56]⟩ : ByteArray)) else (if a0 < 0 then ((YQ.f k (wrap64 (-a0))).bind fun TC => (if 1 + TC.size ≤ 9223372036854775807 then (some ((⟨#[45]⟩ : ByteArray) ++ TC)) else (none))) else (if a0 < 10 then (some (strOfNums (([(wrap64 (48 + a0)) % 256] : List Int)))) else ((YQ.f k (wrap64 (Int.tdiv a0 10))).bind fun Nc => ((some (([(wrap64 (48 + (Int.tmod a0 10))) % 256] : List Int) : List Int)).bind fun Nf => (if Nc.size + (strOfNums Nf).size ≤ 9223372036854775807 then (some (Nc ++ (strOfNums Nf))) else (none))))))
def YQ.T7 : Bool × List (List Nat × List Nat) := (true, [([], []), ([0], [0]), ([1], [1]), ([], []), ([3], [3]), ([4], [4]), ([5], [5]), ([6], [6]), ([7], [7]), ([2, 8], [2, 8]), ([9, 2, 0, 1, 2, 3, 4, 5, 6, 7, 8, 9], [9])])
def YQ.B7 : List Nat := [0, 1, 3, 0, 8, 24, 56, 120, 248, 511, 1023]
theorem YQ.Xur : JH .any (opsOf Tryz.f98 7) = YQ.T7 := by kernel_rfl
theorem YQ.XmO : Z4 YQ.T7.2 YQ.B7 = true := by kernel_rfl
set_option maxHeartbeats 8000000 in
set_option maxRecDepth 100000 in
theorem YQ.calls (k : Nat) : ∀ (a0 : Int) (r : ByteArray) (w : World) (h : YQ.f k a0 = some r),
 Calls Tryz.prog 98 #[.int .i64 a0] w fun e w' => e = .returned (.string r) ∧ Below w.heap.size w w' := by
 induction k using Nat.strongRecOn with
 | _ k ih =>
 intro a0 r w h
 cases k with
 | zero => exact absurd h (by simp [YQ.f])
 | succ k =>
 simp only [YQ.f] at h; have HB := az (Below.refl w.heap.size w); have H : (if a0 < (-9223372036854775807) then (some (⟨#[45, 57, 50, 50, 51, 51, 55, 50, 48, 51, 54, 56, 53, 52, 55, 55, 53, 56, 48, 56]⟩ : ByteArray)) else (if a0 < 0 then ((YQ.f k (wrap64 (-a0))).bind fun TC => (if 1 + TC.size ≤ 9223372036854775807 then (some ((⟨#[45]⟩ : ByteArray) ++ TC)) else (none))) else (if a0 < 10 then (some (strOfNums (([(wrap64 (48 + a0)) % 256] : List Int)))) else ((YQ.f k (wrap64 (Int.tdiv a0 10))).bind fun Nc => ((some (([(wrap64 (48 + (Int.tmod a0 10))) % 256] : List Int) : List Int)).bind fun Nf => (if Nc.size + (strOfNums Nf).size ≤ 9223372036854775807 then (some (Nc ++ (strOfNums Nf))) else (none))))))) = some r := h; clear h
 by_cases c2 : a0 < (-9223372036854775807)
 ·rw [if_pos c2] at H
  have c2b0 : decide (a0 < (-9223372036854775807)) = true := decide_eq_true c2; clear c2; obtain rfl := Option.some.inj H
  go_enter Tryz.func98, Tryz.ntmps98
  go_wp2
  go_ret
  exact ⟨zb4, zb0⟩
 ·rw [if_neg c2] at H
  have c2b0 : decide (a0 < (-9223372036854775807)) = false := decide_eq_false c2; clear c2
  by_cases c3 : a0 < 0
  ·rw [if_pos c3] at H
   have c3b0 : decide (a0 < 0) = true := decide_eq_true c3; clear c3; replace H := Option.bind_eq_some_iff.mp H; obtain ⟨TC, A40, H⟩ := H; replace H : (if 1 + TC.size ≤ 9223372036854775807 then (some ((⟨#[45]⟩ : ByteArray) ++ TC)) else (none)) = some r := H; have A4 := az A40; clear A40
   by_cases c5 : 1 + TC.size ≤ 9223372036854775807
   ·rw [if_pos c5] at H
    have c5b0 := eq_true c5; have c5b1 : decide (1 + TC.size ≤ 9223372036854775807) = true := decide_eq_true c5
    try have c5b2 : (9223372036854775807 < 1 + TC.size) = False := eq_false (Nat.not_lt.2 c5)
    obtain rfl := Option.some.inj H
    go_enter Tryz.func98, Tryz.ntmps98
    go_wp2_with (first | ((with_reducible refine Xo (f := 98) rfl ?_); refine Yx (some 9) rfl rfl Tryz.func98 zb6 rfl #[.int .i64 (wrap64 (-a0))] rfl zb2 ?_; (with_reducible refine (ih k (by omega) (wrap64 (-a0)) TC _ A4.out).mono ?_); rintro e w6 ⟨rfl, hb⟩; refine ⟨_, rfl, ?_⟩; replace HB := az (Xc zb0 hb); (try clear hb); (try clear hb2); (try clear hk); (try clear hi)))
    go_ret
    exact ⟨zb4, zb0⟩
   ·rw [if_neg c5] at H
    exact absurd H (by simp)
  ·rw [if_neg c3] at H
   have c3b0 : decide (a0 < 0) = false := decide_eq_false c3; clear c3
   by_cases c7 : a0 < 10
   ·rw [if_pos c7] at H
    have c7b0 : decide (a0 < 10) = true := decide_eq_true c7; clear c7
    obtain ⟨y203, hy203⟩ : ∃ y_ : List Int, y_ = (([(wrap64 (48 + a0)) % 256] : List Int)) := ⟨_, rfl⟩
    replace H : (some (strOfNums y203)) = some r := by first | (rw [hy203]; with_reducible exact H) | (have H2_ := (Option.bind_some _ _).symm.trans H; rw [hy203]; with_reducible exact H2_) | (have H2_ := (Option.bind_some _ _).symm.trans H; with_reducible exact H2_) | with_reducible exact H | (rw [hy203]; exact H) | exact H
    have Ny203 := az hy203; clear hy203; obtain rfl := Option.some.inj H
    go_enter Tryz.func98, Tryz.ntmps98
    go_wp2_with (first | ((with_reducible refine Xp (N := 16) rfl ?_); refine Kd.Xco (Kd.int .u8) _ 5 ?hg (N := 16) ?hd (xs := ([(wrap64 (48 + a0)) % 256] : List Int)) (inner := [.int .u8 ((wrap64 (48 + a0)) % 256)]) (ok := fun _ => True) (okp := fun _ => True) ?hr ?hp (fun _ hk => hk) trivial (Below.refl _ _) (Nat.le_refl _) (by simp) ?_; (case hd => rfl); (case hg => rfl); (case hr => exact zb7); (case hp => exact (Zt.one (show Kd.M (Kd.int .u8) _ _ _ ((wrap64 (48 + a0)) % 256) [.int .u8 ((wrap64 (48 + a0)) % 256)] from rfl) (Zt.none _ _))); intro v204 w8 ho9 hb hg_ hnew_; clear hg_ hnew_; (first | rw [← Ny203.out] at ho9 | (simp only [Int.reduceToNat] at ho9; rw [← Ny203.out] at ho9)); have Xv8 := az (Kd.YY ho9 (XA zb0)); replace HB := az (Xc zb0 hb); clear hb ho9; have hcv10 := MI (P := Tryz.prog) Tryz.underlying107 Tryz.underlying5 Tryz.underlying9 (Kd.FT Xv8.out)))
    go_ret
    exact ⟨zb4, zb0⟩
   ·rw [if_neg c7] at H
    have c7b0 : decide (a0 < 10) = false := decide_eq_false c7; clear c7; replace H := Option.bind_eq_some_iff.mp H; obtain ⟨Nc, XlJ, H⟩ := H; replace H : ((some (([(wrap64 (48 + (Int.tmod a0 10))) % 256] : List Int) : List Int)).bind fun Nf => (if Nc.size + (strOfNums Nf).size ≤ 9223372036854775807 then (some (Nc ++ (strOfNums Nf))) else (none))) = some r := H; have A11 := az XlJ; clear XlJ
    obtain ⟨Nf, hy207⟩ : ∃ y_ : List Int, y_ = (([(wrap64 (48 + (Int.tmod a0 10))) % 256] : List Int)) := ⟨_, rfl⟩
    replace H : (if Nc.size + (strOfNums Nf).size ≤ 9223372036854775807 then (some (Nc ++ (strOfNums Nf))) else (none)) = some r := by first | (rw [hy207]; with_reducible exact H) | (have H2_ := (Option.bind_some _ _).symm.trans H; rw [hy207]; with_reducible exact H2_) | (have H2_ := (Option.bind_some _ _).symm.trans H; with_reducible exact H2_) | with_reducible exact H | (rw [hy207]; exact H) | exact H
    have Ny207 := az hy207; clear hy207
    by_cases c12 : Nc.size + (strOfNums Nf).size ≤ 9223372036854775807
    ·rw [if_pos c12] at H
     have Ph := eq_true c12; have XhL : decide (Nc.size + (strOfNums Nf).size ≤ 9223372036854775807) = true := decide_eq_true c12
     try have c12b2 : (9223372036854775807 < Nc.size + (strOfNums Nf).size) = False := eq_false (Nat.not_lt.2 c12)
     obtain rfl := Option.some.inj H
     go_enter Tryz.func98, Tryz.ntmps98
     try go_wp2
     replace HB := az (wd HB.out); refine Yw (n := 11) (S := fun w' => True) (ds := []) Xru zb6 rfl rfl trivial (fun hHeld => ?_); refine XH YQ.Xur YQ.XmO (fun HT_ HW_ => ?_); generalize w.drew = w13 at HB hHeld ⊢; refine pu 0 18 Xrv HT_ ?_; refine pu 1 19 Xrw HT_ ?_; refine pu 3 21 Xrx HT_ ?_; refine pu 4 22 Xry HT_ ?_; refine pu 5 23 Xrz HT_ ?_; refine pu 6 24 Xr0 HT_ ?_; refine Xds (σ := Value) 2 RQ (fun s_ => [(20, .string Nc), (25, s_), (26, .string (strOfNums Nf))]) (fun s_ w' => (Kd.R (Kd.int .u8) 5 w' w.heap.size (fun _ => True) s_ Nf) ∧ (Below w.heap.size w w')) ?_ ?_; rotate_left
     ·intro hCont
      refine XkU (i := 2) (j := 7) (Ni := some 20) (Nj := some 25) Xr2 Xr1 rfl rfl rfl rfl (E9 HT_.out zb6) (by decide) (by decide) (fun K hK => ?_) (fun K hK => ?_)
      ·skip
       refine YI Tryz.func98 zb6 rfl #[.int .i64 (wrap64 (Int.tdiv a0 10))] (by rfl) rfl rfl zb2 ?_
       with_reducible refine (ih k (by omega) (wrap64 (Int.tdiv a0 10)) Nc _ A11.out).mono ?_
       rintro e w14 ⟨rfl, hb⟩; refine ⟨_, rfl, ?_⟩; replace HB := az (Xc zb0 hb)
       (try clear hb);(try clear hb2);(try clear hk);(try clear hi)
       refine hK.out _ _ trivial (fun hHeld => ?_); clear hK K; refine XQ (a' := ?_) ?_ ?_; rotate_left
       ·show Act.put _ (some 20) _ = _
        simp only [Act.put, List.setIfInBounds_toArray, List.set_cons_zero, List.set_cons_succ, Xz, XF]
        rfl
       refine Zj (i := 7) (N := some 25) XjW rfl rfl (Yl HT_.out zb6) (by decide) (fun K hK => ?_)
       refine Kd.Pd (Kd.int .u8) _ 5 ?hg (N := 25) ?hd (xs := ([(wrap64 (48 + (Int.tmod a0 10))) % 256] : List Int)) (inner := [.int .u8 ((wrap64 (48 + (Int.tmod a0 10))) % 256)]) (ok := fun _ => True) (okp := fun _ => True) ?hr ?hp (fun _ hk => hk) trivial (Below.refl _ _) (Nat.le_refl _) (by simp) ?_; (case hd => rfl); (case hg => rfl); (case hr => exact zb7); (case hp => exact zb86)
       intro Xkp w15 ho16 hb hg_ hnew_; clear hg_ hnew_
       (first | rw [← Ny207.out] at ho16 | (simp only [Int.reduceToNat] at ho16; rw [← Ny207.out] at ho16))
       have LU := az (Kd.YY ho16 (XA zb0)); replace HB := az (Xc zb0 hb); clear hb ho16; refine hK.out _ _ trivial (fun hHeld => ?_); clear hK K; refine XQ (a' := ?_) ?_ ?_; rotate_left
       ·show Act.put _ (some 25) _ = _
        simp only [Act.put, List.setIfInBounds_toArray, List.set_cons_zero, List.set_cons_succ, Xz, XF]
        rfl
       refine Zj (i := 8) (N := some 26) RQ rfl rfl (Yl HT_.out zb6) (by decide) (fun K hK => ?_); have hcv17 := MI (P := Tryz.prog) Tryz.underlying107 Tryz.underlying5 Tryz.underlying9 (Kd.FT LU.out); refine XfJ (w1 := ?_) (v := ?_) (by rfl) rfl ?_ ?_; rotate_left 2
       ·go_simp
        constructor
        ·rfl
        ·rfl
       clear hcv17; refine hK.out _ _ trivial (fun hHeld => ?_); clear hK K; refine XQ (a' := ?_) ?_ ?_; rotate_left
       ·show Act.put _ (some 26) _ = _
        simp only [Act.put, List.setIfInBounds_toArray, List.set_cons_zero, List.set_cons_succ, Xz, XF]
        rfl
       exact XQ zb24 (hCont (Xkp) _ ⟨zb49, zb0⟩)
      ·skip
       refine Kd.Pd (Kd.int .u8) _ 5 ?hg (N := 25) ?hd (xs := ([(wrap64 (48 + (Int.tmod a0 10))) % 256] : List Int)) (inner := [.int .u8 ((wrap64 (48 + (Int.tmod a0 10))) % 256)]) (ok := fun _ => True) (okp := fun _ => True) ?hr ?hp (fun _ hk => hk) trivial (Below.refl _ _) (Nat.le_refl _) (by simp) ?_; (case hd => rfl); (case hg => rfl); (case hr => exact zb7); (case hp => exact zb86)
       intro Xkp w14 ho15 hb hg_ hnew_; clear hg_ hnew_
       (first | rw [← Ny207.out] at ho15 | (simp only [Int.reduceToNat] at ho15; rw [← Ny207.out] at ho15))
       have LU := az (Kd.YY ho15 (XA zb0)); replace HB := az (Xc zb0 hb); clear hb ho15; refine hK.out _ _ trivial (fun hHeld => ?_); clear hK K; refine XQ (a' := ?_) ?_ ?_; rotate_left
       ·show Act.put _ (some 25) _ = _
        simp only [Act.put, List.setIfInBounds_toArray, List.set_cons_zero, List.set_cons_succ, Xz, XF]
        rfl
       refine XkU (i := 2) (j := 8) (Ni := some 20) (Nj := some 26) XjW Xr3 rfl rfl rfl rfl (E9 HT_.out zb6) (by decide) (by decide) (fun K hK => ?_) (fun K hK => ?_)
       ·skip
        refine YI Tryz.func98 zb6 rfl #[.int .i64 (wrap64 (Int.tdiv a0 10))] (by rfl) rfl rfl zb2 ?_
        with_reducible refine (ih k (by omega) (wrap64 (Int.tdiv a0 10)) Nc _ A11.out).mono ?_
        rintro e w16 ⟨rfl, hb⟩; refine ⟨_, rfl, ?_⟩; replace LU := az (Kd.Xr zb49 hb); replace HB := az (Xc zb0 hb)
        (try clear hb);(try clear hb2);(try clear hk);(try clear hi)
        refine hK.out _ _ trivial (fun hHeld => ?_); clear hK K; refine XQ (a' := ?_) ?_ ?_; rotate_left
        ·show Act.put _ (some 20) _ = _
         simp only [Act.put, List.setIfInBounds_toArray, List.set_cons_zero, List.set_cons_succ, Xz, XF]
         rfl
        refine Zj (i := 8) (N := some 26) RQ rfl rfl (Yl HT_.out zb6) (by decide) (fun K hK => ?_); have hcv17 := MI (P := Tryz.prog) Tryz.underlying107 Tryz.underlying5 Tryz.underlying9 (Kd.FT LU.out); refine XfJ (w1 := ?_) (v := ?_) (by rfl) rfl ?_ ?_; rotate_left 2
        ·go_simp
         constructor
         ·rfl
         ·rfl
        clear hcv17; refine hK.out _ _ trivial (fun hHeld => ?_); clear hK K; refine XQ (a' := ?_) ?_ ?_; rotate_left
        ·show Act.put _ (some 26) _ = _
         simp only [Act.put, List.setIfInBounds_toArray, List.set_cons_zero, List.set_cons_succ, Xz, XF]
         rfl
        exact XQ zb24 (hCont (Xkp) _ ⟨zb49, zb0⟩)
       ·skip
        have hcv16 := MI (P := Tryz.prog) Tryz.underlying107 Tryz.underlying5 Tryz.underlying9 (Kd.FT LU.out); refine XfJ (w1 := ?_) (v := ?_) (by rfl) rfl ?_ ?_; rotate_left 2
        ·go_simp
         constructor
         ·rfl
         ·rfl
        clear hcv16; refine hK.out _ _ trivial (fun hHeld => ?_); clear hK K; refine XQ (a' := ?_) ?_ ?_; rotate_left
        ·show Act.put _ (some 26) _ = _
         simp only [Act.put, List.setIfInBounds_toArray, List.set_cons_zero, List.set_cons_succ, Xz, XF]
         rfl
        refine Zj (i := 2) (N := some 20) RQ rfl rfl (Yl HT_.out zb6) (by decide) (fun K hK => ?_); refine YI Tryz.func98 zb6 rfl #[.int .i64 (wrap64 (Int.tdiv a0 10))] (by rfl) rfl rfl zb2 ?_
        with_reducible refine (ih k (by omega) (wrap64 (Int.tdiv a0 10)) Nc _ A11.out).mono ?_
        rintro e w17 ⟨rfl, hb⟩; refine ⟨_, rfl, ?_⟩; replace LU := az (Kd.Xr zb49 hb); replace HB := az (Xc zb0 hb)
        (try clear hb);(try clear hb2);(try clear hk);(try clear hi)
        refine hK.out _ _ trivial (fun hHeld => ?_); clear hK K; refine XQ (a' := ?_) ?_ ?_; rotate_left
        ·show Act.put _ (some 20) _ = _
         simp only [Act.put, List.setIfInBounds_toArray, List.set_cons_zero, List.set_cons_succ, Xz, XF]
         rfl
        exact XQ zb24 (hCont (Xkp) _ ⟨zb49, zb0⟩)
     rintro Xkp w18 ⟨h0_, h1_⟩
     have LU : Aside0 (Kd.R (Kd.int .u8) 5 w18 w.heap.size (fun _ => True) Xkp Nf) := ⟨h0_⟩
     replace HB : Aside0 (Below w.heap.size w w18) := ⟨h1_⟩
     clear h0_ h1_; have hHeld := trivial; refine XQ (a' := ?_) ?_ ?_; rotate_left
     ·simp only [M9, Act.put, List.setIfInBounds_toArray, List.set_cons_zero, List.set_cons_succ]
      rfl
     refine pu 9 27 Xr4 HT_ ?_; refine pu 10 2 Xr5 HT_ ?_; refine YX (YA HT_.out zb6) ?_
     try go_wp2
     go_ret
     exact ⟨zb4, zb0⟩
    ·rw [if_neg c12] at H
     exact absurd H (by simp)
def Yd.l0 : Nat → ByteArray → Int → Int → Int → List Int → Option (ByteArray)
 | 0, _, _, _, _, _ => none
 | k + 1, x3, x4, Xp7, Xp8, Xbb => if x4 < (Xbb.length : Int) then (if x3.size + 1 ≤ 9223372036854775807 then (if 0 ≤ x4 then ((YQ.f k (rd Xbb x4)).bind fun Be => (if (x3 ++ (⟨#[32]⟩ : ByteArray)).size + Be.size ≤ 9223372036854775807 then (Yd.l0 k ((x3 ++ (⟨#[32]⟩ : ByteArray)) ++ Be) (wrap64 (x4 + 1)) Xp7 Xp8 Xbb) else (none))) else (none)) else (none)) else (some x3)
def Yd.f (k : Nat) (Xu : Int) (Xy : Int) (Xm : List Int) : Option (ByteArray) := (XC.f k Xu Xy Xm).bind fun Xkq => (if Xkq = true then ((YQ.f k Xy).bind fun Bf => (Yd.l0 k Bf 0 Xu Xy Xm)) else (some (⟨#[]⟩ : ByteArray)))
set_option maxHeartbeats 8000000 in
set_option maxRecDepth 100000 in
theorem Yd.calls (k : Nat) (Xu : Int) (Xy : Int) (Yg : Option Addr) (Yh : Nat) (Xm : List Int) (r : ByteArray) (w : World) (hr0_2 : Kd.C (Kd.int .i64) w Yg Xm.length Xm) (hc0_2 : Xm.length ≤ Yh) (h : Yd.f k Xu Xy Xm = some r) :
 Calls Tryz.prog 75 #[.agg #[.int .i64 Xu, .int .i64 Xy, .slice Yg Xm.length Yh]] w fun e w' => e = .returned (.string r) ∧ Below w.heap.size w w' := by
 have hu56 := Tryz.underlying56; have U6 := az hr0_2; have JI := az hc0_2; clear hr0_2 hc0_2; have HB := az (Below.refl w.heap.size w); have H : ((XC.f k Xu Xy Xm).bind fun Xkq => (if Xkq = true then ((YQ.f k Xy).bind fun Bf => (Yd.l0 k Bf 0 Xu Xy Xm)) else (some (⟨#[]⟩ : ByteArray)))) = some r := h; clear h; replace H := Option.bind_eq_some_iff.mp H; obtain ⟨Xkq, A20, H⟩ := H; replace H : (if Xkq = true then ((YQ.f k Xy).bind fun Bf => (Yd.l0 k Bf 0 Xu Xy Xm)) else (some (⟨#[]⟩ : ByteArray))) = some r := H; have A2 := az A20; clear A20
 by_cases c3 : Xkq = true
 ·subst c3
  have H1 : ((YQ.f k Xy).bind fun Bf => (Yd.l0 k Bf 0 Xu Xy Xm)) = some r := by rw [if_pos rfl] at H; exact H
  clear H; have H := H1; clear H1; replace H := Option.bind_eq_some_iff.mp H; obtain ⟨Bf, A40, H⟩ := H; replace H : (Yd.l0 k Bf 0 Xu Xy Xm) = some r := H; have A4 := az A40; clear A40; have H' := az H; clear H
  go_enter Tryz.func75, Tryz.ntmps75
  go_wp2_with (first | ((with_reducible refine Xp (N := 1) rfl ?_); refine Xn ?hg (N := 1) ?hd (cs := #[.int .i64 Xu, .int .i64 Xy, .slice Yg Xm.length Yh]) (t := 56) ?hr ?_; (case hd => rfl); (case hg => rfl); (case hr => exact zb7); intro XhY hg w5 hbox hb; have Vi := az (hbox); have Xmj := az ((zb95 : w.heap.size ≤ XhY)); have Xv9 := Xmj; replace HB := az (Xc zb0 hb); clear hb hbox hg; obtain ⟨RZ, Ca, Cb⟩ := cz3 Vi; have Cc := Xe Vi.out 0; have Ce := Xe Vi.out 1; have Cf := Xe Vi.out 2) | ((with_reducible refine Xo (f := 70) rfl ?_); refine Yx (some 6) rfl rfl Tryz.func70 zb6 rfl #[.agg #[.int .i64 Xu, .int .i64 Xy, .slice Yg Xm.length Yh]] rfl zb2 ?_; (with_reducible refine (XC.calls k Xu Xy _ _ Xm true _ ?side1 ?side2 A2.out).mono ?_); (case side1 => exact zb8); (case side2 => exact JI.out); rintro e w7 ⟨rfl, hb⟩; refine ⟨_, rfl, ?_⟩; replace Vi := bb Vi (fun h => by (with_reducible repeat (first | apply bn | apply bd | apply ba)); exact h) hb; replace HB := az (Xc zb1 hb); (try clear hb); (try clear hb2); (try clear hk); (try clear hi); obtain ⟨Ci, Cj, Ck⟩ := cz3 Vi; have Cm := Xe Vi.out 0; have Cn := Xe Vi.out 1; have Co := Xe Vi.out 2) | ((with_reducible refine Xo (f := 98) rfl ?_); refine Yx (some 10) rfl rfl Tryz.func98 zb6 rfl #[.int .i64 Xy] rfl zb2 ?_; (with_reducible refine (YQ.calls k Xy Bf _ A4.out).mono ?_); rintro e w9 ⟨rfl, hb⟩; refine ⟨_, rfl, ?_⟩; replace Vi := bb Vi (fun h => by (with_reducible repeat (first | apply bn | apply bd | apply ba)); exact h) hb; replace HB := az (Xc zb1 hb); (try clear hb); (try clear hb2); (try clear hk); (try clear hi)))
  go_loopg [3, 4] k (fun kq v3 v4 w' => ∃ (Xl : ByteArray) (X4 : Int), v3 = .string Xl ∧ v4 = .int .i64 X4 ∧ Aside0 (Yd.l0 kq Xl X4 Xu Xy Xm = some r) ∧ Aside0 (kq ≤ k) ∧ Aside0 (w'.heap[XhY]? = some (.cells #[.int .i64 Xu, .int .i64 Xy, (.slice Yg Xm.length Yh)] 56 (0, 0))) ∧ Aside0 (Below w.heap.size w w'))
  case atStart => exact ⟨(Bf), (0), zb5, zb5, H', ⟨Nat.le_refl _⟩, ⟨by (with_reducible repeat (first | apply bn | apply bd | apply ba)); exact Vi.out⟩, ⟨zb1⟩⟩
  case round =>
   clear H';(try clear p2);(try clear c3);(try clear c7);(try clear c9);(try clear RZ);(try clear Ca);(try clear Cb);(try clear Ci);(try clear Cj);(try clear Ck);(try clear Cc);(try clear Ce);(try clear Cf);(try clear Cm);(try clear Cn);(try clear Co)
   obtain ⟨Xl, X4, rfl, rfl, HA, HK1, Vi, HB⟩ := hrel
   cases gk with
   | zero => exact absurd HA.out (by simp [Yd.l0])
   | succ k1 =>
    have H := HA.out; clear HA; simp only [Yd.l0] at H
    by_cases c10 : X4 < (Xm.length : Int)
    ·rw [if_pos c10] at H
     have Vh : decide (X4 < (Xm.length : Int)) = true := decide_eq_true c10; clear c10
     by_cases c11 : Xl.size + 1 ≤ 9223372036854775807
     ·rw [if_pos c11] at H
      have XbL := eq_true c11; have c11b1 : decide (Xl.size + 1 ≤ 9223372036854775807) = true := decide_eq_true c11
      try have c11b2 : (9223372036854775807 < Xl.size + 1) = False := eq_false (Nat.not_lt.2 c11)
      by_cases c12 : 0 ≤ X4
      ·rw [if_pos c12] at H
       have Ph : decide (0 ≤ X4) = true := decide_eq_true c12; clear c12; replace H := Option.bind_eq_some_iff.mp H; obtain ⟨Be, XbM, H⟩ := H; replace H : (if (Xl ++ (⟨#[32]⟩ : ByteArray)).size + Be.size ≤ 9223372036854775807 then (Yd.l0 k1 ((Xl ++ (⟨#[32]⟩ : ByteArray)) ++ Be) (wrap64 (X4 + 1)) Xu Xy Xm) else (none)) = some r := H; have A13 := az XbM; clear XbM
       by_cases c14 : (Xl ++ (⟨#[32]⟩ : ByteArray)).size + Be.size ≤ 9223372036854775807
       ·rw [if_pos c14] at H
        have c14b0 := eq_true c14; have c14b1 : decide ((Xl ++ (⟨#[32]⟩ : ByteArray)).size + Be.size ≤ 9223372036854775807) = true := decide_eq_true c14
        try have c14b2 : (9223372036854775807 < (Xl ++ (⟨#[32]⟩ : ByteArray)).size + Be.size) = False := eq_false (Nat.not_lt.2 c14)
        have c14z : Xl.size + 1 + Be.size ≤ 9223372036854775807 := by have h_ := c14; simp only [ByteArray.size_append] at h_; exact h_
        have c14y := eq_false (Nat.not_lt.2 c14z); have c14x := decide_eq_true c14z; clear c14z; have H' := az H; clear H; obtain ⟨Ri, Rj, Rk⟩ := cz3 Vi; obtain ⟨Rl, Rm, Rn⟩ := fz3 Vi; have Xtu : 0 ≤ (X4 : Int) := of_decide_eq_true zb3; have Xtv : X4 < (Xm.length : Int) := of_decide_eq_true zb3; obtain ⟨ad213, e213, Xbc⟩ := Kd.Jn U6.out X4 Xtu Xtv
        cases e213
        replace Xbc := (HB.out.cell (World.block_lt_of_cell? w _ Xbc)).trans Xbc; replace Xtu := eq_true Xtu; replace Xtv := eq_true Xtv
        go_wp2_with (first | ((with_reducible refine Xo (f := 98) rfl ?_); refine Yx (some 25) rfl rfl Tryz.func98 zb6 rfl #[.int .i64 (rd Xm X4)] rfl zb2 ?_; (with_reducible refine (YQ.calls k1 (rd Xm X4) Be _ A13.out).mono ?_); rintro e w16 ⟨rfl, hb⟩; refine ⟨_, rfl, ?_⟩; replace Vi := bb Vi (fun h => by (with_reducible repeat (first | apply bn | apply bd | apply ba)); exact h) hb; replace HB := az (Xc zb1 hb); (try clear hb); (try clear hb2); (try clear hk); (try clear hi)))
        go_roundg k1
        case measure => have := HK1.out; omega
        case rel => exact ⟨((Xl ++ (⟨#[32]⟩ : ByteArray)) ++ Be), (wrap64 (X4 + 1)), zb5, zb5, H', ⟨zb33⟩, ⟨by (with_reducible repeat (first | apply bn | apply bd | apply ba)); exact Vi.out⟩, ⟨zb1⟩⟩
       ·rw [if_neg c14] at H
        exact absurd H (by simp)
      ·rw [if_neg c12] at H
       exact absurd H (by simp)
     ·rw [if_neg c11] at H
      exact absurd H (by simp)
    ·rw [if_neg c10] at H
     have Vh : decide (X4 < (Xm.length : Int)) = false := decide_eq_false c10; clear c10; obtain rfl := Option.some.inj H; obtain ⟨QQ, QR, QS⟩ := cz3 Vi; obtain ⟨QT, QU, QV⟩ := fz3 Vi
     go_wp2
     go_ret
     exact ⟨zb4, zb1⟩
 ·replace c3 := Bool.eq_false_iff.mpr c3
  subst c3
  have H1 : (some (⟨#[]⟩ : ByteArray)) = some r := by rw [if_neg (show ¬ (false = true) by decide)] at H; exact H
  clear H; have H := H1; clear H1; obtain rfl := Option.some.inj H
  go_enter Tryz.func75, Tryz.ntmps75
  go_wp2_with (first | ((with_reducible refine Xp (N := 1) rfl ?_); refine Xn ?hg (N := 1) ?hd (cs := #[.int .i64 Xu, .int .i64 Xy, .slice Yg Xm.length Yh]) (t := 56) ?hr ?_; (case hd => rfl); (case hg => rfl); (case hr => exact zb7); intro XhY hg w18 hbox hb; have Vi := az (hbox); have Xmj := az ((zb95 : w.heap.size ≤ XhY)); have Xv9 := Xmj; replace HB := az (Xc zb0 hb); clear hb hbox hg; obtain ⟨TQ, TR, TS⟩ := cz3 Vi; have TT := Xe Vi.out 0; have TU := Xe Vi.out 1; have TV := Xe Vi.out 2) | ((with_reducible refine Xo (f := 70) rfl ?_); refine Yx (some 6) rfl rfl Tryz.func70 zb6 rfl #[.agg #[.int .i64 Xu, .int .i64 Xy, .slice Yg Xm.length Yh]] rfl zb2 ?_; (with_reducible refine (XC.calls k Xu Xy _ _ Xm false _ ?side1 ?side2 A2.out).mono ?_); (case side1 => exact zb8); (case side2 => exact JI.out); rintro e w20 ⟨rfl, hb⟩; refine ⟨_, rfl, ?_⟩; replace Vi := bb Vi (fun h => by (with_reducible repeat (first | apply bn | apply bd | apply ba)); exact h) hb; replace HB := az (Xc zb1 hb); (try clear hb); (try clear hb2); (try clear hk); (try clear hi)))
  go_ret
  exact ⟨zb4, zb1⟩
def YG.f (k : Nat) (Xu : Int) (Xy : Int) (Xm : List Int) (Zd : Int) (Zk : Int) (ZC : List Int) : Option (Bool) := if Xu = Zd then ((Yd.f k Xu Xy Xm).bind fun XeL => ((Yd.f k Zd Zk ZC).bind fun t218 => (some (XeL.toList == t218.toList)))) else (some false)
def YG.T1 : Bool × List (List Nat × List Nat) := (true, [([], []), ([0], [0]), ([], []), ([2], [2]), ([1, 3], [1, 3]), ([4], [4]), ([5], [5]), ([6, 5, 5], [5, 6]), ([5], [5]), ([8, 7, 5], [5, 8]), ([7, 9, 5], [5, 7, 9]), ([5, 10], [5, 10]), ([11, 9, 0, 1, 2, 3, 4, 5, 6, 7, 8, 9, 10, 11], [11])])
def YG.B1 : List Nat := [0, 1, 0, 4, 15, 31, 63, 127, 63, 511, 1023, 2047, 4095]
theorem YG.TH : JH .any (opsOf Tryz.f46 1) = YG.T1 := by kernel_rfl
theorem YG.MQ : Z4 YG.T1.2 YG.B1 = true := by kernel_rfl
set_option maxHeartbeats 8000000 in
set_option maxRecDepth 100000 in
theorem YG.calls (k : Nat) (Xu : Int) (Xy : Int) (Yg : Option Addr) (Yh : Nat) (Xm : List Int) (Zd : Int) (Zk : Int) (VR : Option Addr) (VS : Nat) (ZC : List Int) (r : Bool) (w : World) (hr0_2 : Kd.C (Kd.int .i64) w Yg Xm.length Xm) (hc0_2 : Xm.length ≤ Yh) (hr1_2 : Kd.C (Kd.int .i64) w VR ZC.length ZC) (hc1_2 : ZC.length ≤ VS) (h : YG.f k Xu Xy Xm Zd Zk ZC = some r) :
 Calls Tryz.prog 46 #[.agg #[.int .i64 Xu, .int .i64 Xy, .slice Yg Xm.length Yh], .agg #[.int .i64 Zd, .int .i64 Zk, .slice VR ZC.length VS]] w fun e w' => e = .returned (.bool r) ∧ Below w.heap.size w w' := by
 have hu56 := Tryz.underlying56; have U6 := az hr0_2; have JI := az hc0_2; clear hr0_2 hc0_2; have XfX := az hr1_2; have Ng := az hc1_2; clear hr1_2 hc1_2; have HB := az (Below.refl w.heap.size w); have H : (if Xu = Zd then ((Yd.f k Xu Xy Xm).bind fun XeL => ((Yd.f k Zd Zk ZC).bind fun t218 => (some (XeL.toList == t218.toList)))) else (some false)) = some r := h; clear h
 by_cases c3 : Xu = Zd
 ·rw [if_pos c3] at H
  have c3b0 : (Xu == Zd) = true := beq_iff_eq.mpr c3; have c3b1 : (Xu != Zd) = false := bne_eq_false_iff_eq.mpr c3; clear c3; replace H := Option.bind_eq_some_iff.mp H; obtain ⟨XeL, A40, H⟩ := H; replace H : ((Yd.f k Zd Zk ZC).bind fun t218 => (some (XeL.toList == t218.toList))) = some r := H; have A4 := az A40; clear A40; replace H := Option.bind_eq_some_iff.mp H; obtain ⟨t218, A50, H⟩ := H; replace H : (some (XeL.toList == t218.toList)) = some r := H; have A5 := az A50; clear A50; obtain rfl := Option.some.inj H
  go_enter Tryz.func46, Tryz.ntmps46
  try go_wp2_with (first | ((with_reducible refine Xp (N := 2) rfl ?_); refine Xn ?hg (N := 2) ?hd (cs := #[.int .i64 Xu, .int .i64 Xy, .slice Yg Xm.length Yh]) (t := 56) ?hr ?_; (case hd => rfl); (case hg => rfl); (case hr => exact zb7); intro Pt hg w6 hbox hb; have JW := az (hbox); have Xmk := az ((zb95 : w.heap.size ≤ Pt)); have XvA := Xmk; replace HB := az (Xc zb0 hb); clear hb hbox hg) | ((with_reducible refine Xp (N := 3) rfl ?_); refine Xn ?hg (N := 3) ?hd (cs := #[.int .i64 Zd, .int .i64 Zk, .slice VR ZC.length VS]) (t := 56) ?hr ?_; (case hd => rfl); (case hg => rfl); (case hr => exact zb7); intro Pv hg w7 hbox hb; have VT := az (hbox); have Xml := az ((zb97 : w.heap.size ≤ Pv)); have XvB := Xml; replace HB := az (Xc zb1 hb); obtain ⟨Xkr, Xks⟩ := nb JW hg (fun h => by (with_reducible repeat (first | apply bn | apply bd | apply ba)); exact h); replace JW := bb JW (fun h => by (with_reducible repeat (first | apply bn | apply bd | apply ba)); exact h) hb; clear hb hbox hg))
  replace JW := az (XB JW.out); replace VT := az (XB VT.out); replace HB := az (wd HB.out); refine Yw (n := 13) (S := fun w' => w'.cell? ⟨Pt, 0, none⟩ = some (.int .i64 Xu) ∧ w'.cell? ⟨Pt, 1, none⟩ = some (.int .i64 Xy) ∧ w'.cell? ⟨Pt, 2, none⟩ = some (.slice Yg Xm.length Yh) ∧ w'.cell? ⟨Pv, 0, none⟩ = some (.int .i64 Zd) ∧ w'.cell? ⟨Pv, 1, none⟩ = some (.int .i64 Zk) ∧ w'.cell? ⟨Pv, 2, none⟩ = some (.slice VR ZC.length VS)) (ds := []) Xnd zb6 rfl rfl ⟨bt JW rfl, bt JW rfl, bt JW rfl, bt VT rfl, bt VT rfl, bt VT rfl⟩ (fun hHeld => ?_); refine XH YG.TH YG.MQ (fun HT_ HW_ => ?_); generalize w7.drew = w8 at JW VT HB hHeld ⊢; refine pu 0 5 Xne HT_ ?_; refine pu 2 7 Xnf HT_ ?_; refine tk 1 6 Xng HT_ HW_ hHeld ?_; refine tk 3 8 Xnh HT_ HW_ hHeld ?_; refine pu 4 9 Xni HT_ ?_; refine pu 5 10 Xnj HT_ ?_; refine tk 6 11 Xnk HT_ HW_ hHeld ?_; refine tk 8 13 Xu1 HT_ HW_ hHeld ?_; refine Zj (i := 7) (N := some 12) XjR rfl rfl (Yl HT_.out zb6) (by decide) (fun K hK => ?_); refine YI Tryz.func75 zb6 rfl #[.agg #[.int .i64 Xu, .int .i64 Xy, .slice Yg Xm.length Yh]] (by rfl) rfl rfl zb2 ?_
  with_reducible refine (Yd.calls k Xu Xy _ _ Xm XeL _ ?side1 ?side2 A4.out).mono ?_
  (case side1 => exact zb8)
  (case side2 => exact JI.out)
  rintro e w9 ⟨rfl, hb⟩; refine ⟨_, rfl, ?_⟩; replace JW := bb JW (fun h => by (with_reducible repeat (first | apply bn | apply bd | apply ba)); exact h) hb; replace VT := bb VT (fun h => by (with_reducible repeat (first | apply bn | apply bd | apply ba)); exact h) hb; replace HB := az (Xc zb1 hb)
  (try clear hb);(try clear hb2);(try clear hk);(try clear hi)
  refine hK.out _ _ ⟨bt JW rfl, bt JW rfl, bt JW rfl, bt VT rfl, bt VT rfl, bt VT rfl⟩ (fun hHeld => ?_); clear hK K; refine XQ (a' := ?_) ?_ ?_; rotate_left
  ·show Act.put _ (some 12) _ = _
   simp only [Act.put, List.setIfInBounds_toArray, List.set_cons_zero, List.set_cons_succ, Xz, XF]
   rfl
  refine Zj (i := 9) (N := some 14) XjS rfl rfl (Yl HT_.out zb6) (by decide) (fun K hK => ?_); refine YI Tryz.func75 zb6 rfl #[.agg #[.int .i64 Zd, .int .i64 Zk, .slice VR ZC.length VS]] (by rfl) rfl rfl zb2 ?_
  with_reducible refine (Yd.calls k Zd Zk _ _ ZC t218 _ ?side1 ?side2 A5.out).mono ?_
  (case side1 => exact zb19)
  (case side2 => exact Ng.out)
  rintro e w10 ⟨rfl, hb⟩; refine ⟨_, rfl, ?_⟩; replace JW := bb JW (fun h => by (with_reducible repeat (first | apply bn | apply bd | apply ba)); exact h) hb; replace VT := bb VT (fun h => by (with_reducible repeat (first | apply bn | apply bd | apply ba)); exact h) hb; replace HB := az (Xc zb1 hb)
  (try clear hb);(try clear hb2);(try clear hk);(try clear hi)
  refine hK.out _ _ ⟨bt JW rfl, bt JW rfl, bt JW rfl, bt VT rfl, bt VT rfl, bt VT rfl⟩ (fun hHeld => ?_); clear hK K; refine XQ (a' := ?_) ?_ ?_; rotate_left
  ·show Act.put _ (some 14) _ = _
   simp only [Act.put, List.setIfInBounds_toArray, List.set_cons_zero, List.set_cons_succ, Xz, XF]
   rfl
  refine pu 10 15 XjT HT_ ?_; refine pu 11 16 XjU HT_ ?_; refine pu 12 4 XjV HT_ ?_; refine YX (YA HT_.out zb6) ?_
  try go_wp2
  go_ret
  exact ⟨zb4, zb1⟩
 ·rw [if_neg c3] at H
  have c3b0 : (Xu == Zd) = false := beq_eq_false_iff_ne.mpr c3; have c3b1 : (Xu != Zd) = true := bne_iff_ne.mpr c3; obtain rfl := Option.some.inj H
  go_enter Tryz.func46, Tryz.ntmps46
  try go_wp2_with (first | ((with_reducible refine Xp (N := 2) rfl ?_); refine Xn ?hg (N := 2) ?hd (cs := #[.int .i64 Xu, .int .i64 Xy, .slice Yg Xm.length Yh]) (t := 56) ?hr ?_; (case hd => rfl); (case hg => rfl); (case hr => exact zb7); intro Pt hg w11 hbox hb; have JW := az (hbox); have Xmk := az ((zb95 : w.heap.size ≤ Pt)); have XvA := Xmk; replace HB := az (Xc zb0 hb); clear hb hbox hg) | ((with_reducible refine Xp (N := 3) rfl ?_); refine Xn ?hg (N := 3) ?hd (cs := #[.int .i64 Zd, .int .i64 Zk, .slice VR ZC.length VS]) (t := 56) ?hr ?_; (case hd => rfl); (case hg => rfl); (case hr => exact zb7); intro Pv hg w12 hbox hb; have VT := az (hbox); have Xml := az ((zb97 : w.heap.size ≤ Pv)); have XvB := Xml; replace HB := az (Xc zb1 hb); obtain ⟨Xkr, Xks⟩ := nb JW hg (fun h => by (with_reducible repeat (first | apply bn | apply bd | apply ba)); exact h); replace JW := bb JW (fun h => by (with_reducible repeat (first | apply bn | apply bd | apply ba)); exact h) hb; clear hb hbox hg))
  replace JW := az (XB JW.out); replace VT := az (XB VT.out); replace HB := az (wd HB.out); refine Yw (n := 13) (S := fun w' => w'.cell? ⟨Pt, 0, none⟩ = some (.int .i64 Xu) ∧ w'.cell? ⟨Pt, 1, none⟩ = some (.int .i64 Xy) ∧ w'.cell? ⟨Pt, 2, none⟩ = some (.slice Yg Xm.length Yh) ∧ w'.cell? ⟨Pv, 0, none⟩ = some (.int .i64 Zd) ∧ w'.cell? ⟨Pv, 1, none⟩ = some (.int .i64 Zk) ∧ w'.cell? ⟨Pv, 2, none⟩ = some (.slice VR ZC.length VS)) (ds := []) Xnd zb6 rfl rfl ⟨bt JW rfl, bt JW rfl, bt JW rfl, bt VT rfl, bt VT rfl, bt VT rfl⟩ (fun hHeld => ?_); refine XH YG.TH YG.MQ (fun HT_ HW_ => ?_); generalize w12.drew = w13 at JW VT HB hHeld ⊢; refine pu 0 5 Xne HT_ ?_; refine pu 2 7 Xnf HT_ ?_; refine tk 1 6 Xng HT_ HW_ hHeld ?_; refine tk 3 8 Xnh HT_ HW_ hHeld ?_; refine pu 4 9 Xni HT_ ?_; refine pu 5 10 Xnj HT_ ?_; refine pn 6 11 Xnk HT_ ?_; refine pn 7 12 Xu2 HT_ ?_; refine pn 8 13 XjR HT_ ?_; refine pn 9 14 XjS HT_ ?_; refine pn 10 15 XjT HT_ ?_; refine pu 11 16 XjU HT_ ?_; refine pu 12 4 XjV HT_ ?_; refine YX (YA HT_.out zb6) ?_
  try go_wp2
  go_ret
  exact ⟨zb4, zb1⟩
end Go.Proofs.YtphnphmbfogmlaaGreat.Pr
