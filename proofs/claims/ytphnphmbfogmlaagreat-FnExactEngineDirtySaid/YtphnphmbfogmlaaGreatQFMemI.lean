import Derived.Test.YtphnphmbfogmlaaGreatQFByq
import Derived.Test.YtphnphmbfogmlaaGreatQFSx
import Derived.Test.YtphnphmbfogmlaaGreatQFPrWith
import Derived.Test.YtphnphmbfogmlaaGreatQFLastOf
import Derived.Test.YtphnphmbfogmlaaGreatQFEnI
namespace Go.Proofs.YtphnphmbfogmlaaGreat.Pr
open Go.RowKit Go.PW Go.PL Go.PM Go.Proofs.YtphnphmbfogmlaaGreat.T
attribute [local go_sem] Y3 Y4 YN YO Ya Yb Y5 Y6
set_option linter.unusedVariables false
set_option linter.unusedSimpArgs false
abbrev mMM0 : Array Bool := #[nn,nn,nn,nn,nn,nn,nn,nn,nn,nn,nn,nn,nn,nn]
abbrev mMM1 : Array Bool := #[yy,nn,nn,nn,nn,nn,nn,nn,nn,nn,nn,nn,nn,nn]
abbrev mMM2 : Array Bool := #[yy,yy,nn,nn,nn,nn,nn,nn,nn,nn,nn,nn,nn,nn]
abbrev mMM3 : Array Bool := #[yy,yy,yy,nn,nn,nn,nn,nn,nn,nn,nn,nn,nn,nn]
abbrev mMM4 : Array Bool := #[yy,yy,yy,yy,nn,nn,nn,nn,nn,nn,nn,nn,nn,nn]
abbrev mMM5 : Array Bool := #[yy,yy,yy,yy,yy,nn,nn,nn,nn,nn,nn,nn,nn,nn]
abbrev mMM6 : Array Bool := #[yy,yy,yy,yy,yy,yy,nn,nn,nn,nn,nn,nn,nn,nn]
abbrev mMM7 : Array Bool := #[yy,yy,yy,yy,yy,yy,yy,nn,nn,nn,nn,nn,nn,nn]
abbrev mMM8 : Array Bool := #[yy,yy,yy,yy,yy,yy,yy,yy,nn,nn,nn,nn,nn,nn]
abbrev mMM9 : Array Bool := #[yy,yy,yy,yy,yy,yy,yy,yy,yy,nn,nn,nn,nn,nn]
abbrev Xwh : Array Bool := #[yy,yy,yy,yy,yy,yy,yy,yy,yy,yy,nn,nn,nn,nn]
abbrev XmT : Array Bool := #[yy,yy,yy,yy,yy,yy,yy,yy,yy,yy,yy,yy,nn,nn]
abbrev Xwi : Array Bool := #[yy,yy,yy,yy,yy,yy,yy,yy,yy,yy,yy,nn,nn,nn]
abbrev Xwj : Array Bool := #[yy,yy,yy,yy,yy,yy,yy,yy,yy,yy,nn,yy,nn,nn]
abbrev Xwk : Array Bool := #[yy,yy,yy,yy,yy,yy,yy,yy,yy,yy,yy,yy,yy,nn]
abbrev Xwl : Array Bool := #[yy,yy,yy,yy,yy,yy,yy,yy,yy,yy,yy,yy,yy,yy]
abbrev Xjv : Array Bool := #[nn,nn,nn,nn,nn,nn,nn,nn,nn,nn,nn,nn,nn,nn,nn,nn,nn,nn,nn,nn,nn,nn,nn,nn,nn,nn,nn]
abbrev Xjw : Array Bool := #[yy,nn,nn,nn,nn,nn,nn,nn,nn,nn,nn,nn,nn,nn,nn,nn,nn,nn,nn,nn,nn,nn,nn,nn,nn,nn,nn]
abbrev Xjx : Array Bool := #[yy,yy,nn,nn,nn,nn,nn,nn,nn,nn,nn,nn,nn,nn,nn,nn,nn,nn,nn,nn,nn,nn,nn,nn,nn,nn,nn]
abbrev Xjy : Array Bool := #[yy,yy,yy,nn,nn,nn,nn,nn,nn,nn,nn,nn,nn,nn,nn,nn,nn,nn,nn,nn,nn,nn,nn,nn,nn,nn,nn]
abbrev Xjz : Array Bool := #[yy,yy,yy,yy,nn,nn,nn,nn,nn,nn,nn,nn,nn,nn,nn,nn,nn,nn,nn,nn,nn,nn,nn,nn,nn,nn,nn]
abbrev Xj0 : Array Bool := #[yy,yy,yy,yy,yy,nn,nn,nn,nn,nn,nn,nn,nn,nn,nn,nn,nn,nn,nn,nn,nn,nn,nn,nn,nn,nn,nn]
abbrev Xj1 : Array Bool := #[yy,yy,yy,yy,yy,yy,nn,nn,nn,nn,nn,nn,nn,nn,nn,nn,nn,nn,nn,nn,nn,nn,nn,nn,nn,nn,nn]
abbrev Xj2 : Array Bool := #[yy,yy,yy,yy,yy,yy,yy,nn,nn,nn,nn,nn,nn,nn,nn,nn,nn,nn,nn,nn,nn,nn,nn,nn,nn,nn,nn]
abbrev Xj3 : Array Bool := #[yy,yy,yy,yy,yy,yy,yy,yy,nn,nn,nn,nn,nn,nn,nn,nn,nn,nn,nn,nn,nn,nn,nn,nn,nn,nn,nn]
abbrev Xj4 : Array Bool := #[yy,yy,yy,yy,yy,yy,yy,yy,yy,nn,nn,nn,nn,nn,nn,nn,nn,nn,nn,nn,nn,nn,nn,nn,nn,nn,nn]
abbrev Xj5 : Array Bool := #[yy,yy,yy,yy,yy,yy,yy,yy,yy,yy,nn,nn,nn,nn,nn,nn,nn,nn,nn,nn,nn,nn,nn,nn,nn,nn,nn]
abbrev Xj6 : Array Bool := #[yy,yy,yy,yy,yy,yy,yy,yy,yy,yy,yy,nn,nn,nn,nn,nn,nn,nn,nn,nn,nn,nn,nn,nn,nn,nn,nn]
abbrev Xj7 : Array Bool := #[yy,yy,yy,yy,yy,yy,yy,yy,yy,yy,yy,yy,nn,nn,nn,nn,nn,nn,nn,nn,nn,nn,nn,nn,nn,nn,nn]
abbrev Xj8 : Array Bool := #[yy,yy,yy,yy,yy,yy,yy,yy,yy,yy,yy,yy,yy,nn,nn,nn,nn,nn,nn,nn,nn,nn,nn,nn,nn,nn,nn]
abbrev Xj9 : Array Bool := #[yy,yy,yy,yy,yy,yy,yy,yy,yy,yy,yy,yy,yy,yy,nn,nn,nn,nn,nn,nn,nn,nn,nn,nn,nn,nn,nn]
abbrev XjA : Array Bool := #[yy,yy,yy,yy,yy,yy,yy,yy,yy,yy,yy,yy,yy,yy,yy,nn,nn,nn,nn,nn,nn,nn,nn,nn,nn,nn,nn]
abbrev XjB : Array Bool := #[yy,yy,yy,yy,yy,yy,yy,yy,yy,yy,yy,yy,yy,yy,yy,yy,nn,nn,nn,nn,nn,nn,nn,nn,nn,nn,nn]
abbrev XjC : Array Bool := #[yy,yy,yy,yy,yy,yy,yy,yy,yy,yy,yy,yy,yy,yy,yy,yy,yy,nn,nn,nn,nn,nn,nn,nn,nn,nn,nn]
abbrev XjD : Array Bool := #[yy,yy,yy,yy,yy,yy,yy,yy,yy,yy,yy,yy,yy,yy,yy,yy,yy,yy,nn,nn,nn,nn,nn,nn,nn,nn,nn]
abbrev XjE : Array Bool := #[yy,yy,yy,yy,yy,yy,yy,yy,yy,yy,yy,yy,yy,yy,yy,yy,yy,yy,yy,nn,nn,nn,nn,nn,nn,nn,nn]
abbrev XjF : Array Bool := #[yy,yy,yy,yy,yy,yy,yy,yy,yy,yy,yy,yy,yy,yy,yy,yy,yy,yy,yy,yy,nn,nn,nn,nn,nn,nn,nn]
abbrev XjG : Array Bool := #[yy,yy,yy,yy,yy,yy,yy,yy,yy,yy,yy,yy,yy,yy,yy,yy,yy,yy,yy,yy,yy,nn,nn,nn,nn,nn,nn]
abbrev XjH : Array Bool := #[yy,yy,yy,yy,yy,yy,yy,yy,yy,yy,yy,yy,yy,yy,yy,yy,yy,yy,yy,yy,yy,yy,nn,nn,nn,nn,nn]
abbrev XjI : Array Bool := #[yy,yy,yy,yy,yy,yy,yy,yy,yy,yy,yy,yy,yy,yy,yy,yy,yy,yy,yy,yy,yy,yy,yy,nn,nn,nn,nn]
abbrev XjJ : Array Bool := #[yy,yy,yy,yy,yy,yy,yy,yy,yy,yy,yy,yy,yy,yy,yy,yy,yy,yy,yy,yy,yy,yy,yy,yy,nn,nn,nn]
abbrev XjK : Array Bool := #[yy,yy,yy,yy,yy,yy,yy,yy,yy,yy,yy,yy,yy,yy,yy,yy,yy,yy,yy,yy,yy,yy,yy,yy,yy,nn,nn]
abbrev XjL : Array Bool := #[yy,yy,yy,yy,yy,yy,yy,yy,yy,yy,yy,yy,yy,yy,yy,yy,yy,yy,yy,yy,yy,yy,yy,yy,yy,yy,nn]
abbrev XjM : Array Bool := #[yy,yy,yy,yy,yy,yy,yy,yy,yy,yy,yy,yy,yy,yy,yy,yy,yy,yy,yy,yy,yy,yy,yy,yy,yy,yy,yy]
def Zb.T1 : Bool × List (List Nat × List Nat) := (true, [([], []), ([0], [0]), ([], []), ([1, 2], [1, 2]), ([3], [3]), ([], []), ([5], [5]), ([], []), ([6, 7], [6, 7]), ([8], [8]), ([], []), ([], []), ([10, 4, 0, 1, 2, 3, 4, 10, 11], [4, 10]), ([11, 9, 12, 0, 1, 2, 3, 4, 5, 6, 7, 8, 9, 10, 11, 12], [9, 11])])
def Zb.B1 : List Nat := [0, 1, 0, 7, 15, 0, 32, 0, 224, 480, 0, 0, 3103, 8191]
theorem Zb.TH : JH .any (opsOf Tryz.f55 1) = Zb.T1 := by kernel_rfl
theorem Zb.MQ : Z4 Zb.T1.2 Zb.B1 = true := by kernel_rfl
def Zb.T4 : Bool × List (List Nat × List Nat) := (true, [([], []), ([0], [0]), ([], []), ([2], [2]), ([1, 3], [1, 3]), ([4], [4]), ([5], [5]), ([6, 5], [5, 6]), ([5], [5]), ([8, 5], [5, 8]), ([5], [5]), ([9, 10, 5, 5], [5, 9, 10]), ([7, 11, 5], [5, 7, 11]), ([5, 12], [5, 12]), ([13, 11], [13]), ([14], [14]), ([15, 14], [14, 15]), ([14], [14]), ([17, 14], [14, 17]), ([16, 18, 14], [14, 16, 18]), ([19, 14, 14], [14, 19]), ([20], [20]), ([20], [20]), ([21, 22, 20, 20], [20, 21, 22]), ([20, 23, 14], [14, 20, 23]), ([14, 24], [14, 24]), ([25, 23, 0, 1, 2, 3, 4, 5, 6, 7, 8, 9, 10, 11, 12, 13, 14, 15, 16, 17, 18, 19, 20, 21, 22, 23, 24, 25], [25])])
def Zb.B4 : List Nat := [0, 1, 0, 4, 15, 31, 63, 127, 63, 319, 63, 1855, 4095, 8191, 16383, 32767, 65535, 32767, 163839, 524287, 1048575, 2097151, 2097151, 8388607, 16777215, 33554431, 67108863]
theorem Zb.TE : JH .any (opsOf Tryz.f55 4) = Zb.T4 := by kernel_rfl
theorem Zb.MN : Z4 Zb.T4.2 Zb.B4 = true := by kernel_rfl
set_option maxHeartbeats 8000000 in
set_option maxRecDepth 100000 in
theorem Tm (A0 : Option Addr) (c0 : Nat) (D : List S56) (A1 : Option Addr) (c1 : Nat) (M : List S56) (A2 : Option Addr) (c2 : Nat) (L : List S76) (s : Int) (d : Bool) (p : Int) (q : S56) (A3 : Option Addr) (c3 : Nat) (w : World) (hD : Kd.C k56 w A0 D.length D) (hM : Kd.C k56 w A1 M.length M) (hL : Kd.C k76 w A2 L.length L) (hc2 : L.length ≤ c2) (hQ : Kd.C (Kd.int .i64) w A3 q.f2.length q.f2) (hc3 : q.f2.length ≤ c3) (hq3 : q.f2.length ≤ 1000) (hV : V3 D) (hVM : V3 M) (hg2 : YP L = true) (hp0 : 0 ≤ p) (hp5 : p < 5) :
 Calls Tryz.prog 55 #[.agg #[.slice A0 D.length c0, .slice A1 M.length c1, .slice A2 L.length c2, .int .i64 s, .bool d], .int .i64 p, .agg #[.int .i64 q.f0, .int .i64 q.f1, .slice A3 q.f2.length c3]] w fun e w' => e = .returned (.bool (if JL L p = true then (De D M L p && (pg M p).f1 == q.f1) else VC (pg M p) q)) ∧ Below w.heap.size w w' := by
 obtain ⟨b, hbv⟩ : ∃ b, (if JL L p = true then (De D M L p && (pg M p).f1 == q.f1) else VC (pg M p) q) = b := ⟨_, rfl⟩
 rw [hbv]; have HBv := zz hbv; clear hbv; have hu31 := Tryz.underlying31; have hu25 := Tryz.underlying56; have hlen := ZK hg2; have HD := zz hD; have HM := zz hM; have HL := zz hL; have HQ := zz hQ; have HCL := zz hc2; have HCQ := zz hc3; have HV := zz hV; have HVM := zz hVM
 have hlD : p < (D.length : Int) := by rw [hV.len]; exact hp5
 have hlM : p < (M.length : Int) := by rw [hVM.len]; exact hp5
 have q0 := eq_true hp0; have qD := eq_true hlD; have qM := eq_true hlM; clear hD hM hL hQ hc2 hc3 hV hVM
 go_enter Tryz.func55, Tryz.ntmps55
 go_upto_region 1 with (fail)
 obtain ⟨w5, hw5⟩ : ∃ w5, (w.alloc (.cells #[.slice A0 D.length c0, .slice A1 M.length c1, .slice A2 L.length c2, .int .i64 s, .bool d] 31)).alloc (.cells #[.int .i64 q.f0, .int .i64 q.f1, .slice A3 q.f2.length c3] 56) = w5 := ⟨_, rfl⟩
 have BE5 : Aside0 (U5 w5 w.heap.size (.slice A0 D.length c0) (.slice A1 M.length c1) (.slice A2 L.length c2) s d) := ⟨hw5 ▸ Ye (U5.new _ _ _ _ _ _) _⟩
 have BQ5 : Aside0 (w5.heap[w.heap.size + 1]? = some (.cells #[.int .i64 q.f0, .int .i64 q.f1, .slice A3 q.f2.length c3] 56 (0, 0))) := ⟨by rw [← hw5]; have h_ := Jq (w.alloc (.cells #[.slice A0 D.length c0, .slice A1 M.length c1, .slice A2 L.length c2, .int .i64 s, .bool d] 31)) (.cells #[.int .i64 q.f0, .int .i64 q.f1, .slice A3 q.f2.length c3] 56); simpa using h_⟩
 have LB5 : Aside0 (Below w.heap.size w w5) := ⟨hw5 ▸ Xj (Xj (Below.refl w.heap.size w) _) _⟩
 rw [hw5]; have CD := zz (Kd.Xg HD.out LB5.out); have CM := zz (Kd.Xg HM.out LB5.out); have CL := zz (Kd.Xg HL.out LB5.out); have CQ := zz (Kd.Xg HQ.out LB5.out); clear hw5 HD HM HL HQ; obtain ⟨aD, BD, bD, eD, d0, d1, d2, hdl, hdc⟩ := Zl CD.out p hp0 hlD; obtain ⟨aM, BM, bM, eM, m0, m1, m2, hml, hmc⟩ := Zl CM.out p hp0 hlM; subst eD eM; obtain ⟨x0, x1, x2, x3, x4⟩ := BE5.out.cells; obtain ⟨y0, y1, y2⟩ := cz3 BQ5; have ID := zz hdc; have JD := zz hdl; have IM := zz hmc; have JM := zz hml; clear hdl hdc hml hmc hlD hlM
 have LW : Aside0 (Below w5.heap.size w5 w5.drew) := ⟨Xx (Below.refl _ _)⟩
 refine Yw (n := 14) (S := fun w' => w'.cell? ⟨w.heap.size, 0, none⟩ = some (.slice (some aD) D.length c0) ∧ w'.cell? ⟨w.heap.size, 1, none⟩ = some (.slice (some aM) M.length c1) ∧ w'.cell? ⟨w.heap.size, 2, none⟩ = some (.slice A2 L.length c2) ∧ w'.cell? ⟨w.heap.size, 3, none⟩ = some (.int .i64 s) ∧ w'.cell? ⟨w.heap.size, 4, none⟩ = some (.bool d) ∧ w'.cell? (aD.add (p.toNat * 3)) = some (.int .i64 (Xb D p).f0) ∧ w'.cell? ⟨(aD.add (p.toNat * 3)).block, (aD.add (p.toNat * 3)).off + 1, none⟩ = some (.int .i64 (Xb D p).f1) ∧ w'.cell? ⟨(aD.add (p.toNat * 3)).block, (aD.add (p.toNat * 3)).off + 2, none⟩ = some (.slice BD (Xb D p).f2.length bD) ∧ w'.cell? (aM.add (p.toNat * 3)) = some (.int .i64 (Xb M p).f0) ∧ w'.cell? ⟨(aM.add (p.toNat * 3)).block, (aM.add (p.toNat * 3)).off + 1, none⟩ = some (.int .i64 (Xb M p).f1) ∧ w'.cell? ⟨(aM.add (p.toNat * 3)).block, (aM.add (p.toNat * 3)).off + 2, none⟩ = some (.slice BM (Xb M p).f2.length bM)) (ds := [13]) mMM0 zb6 rfl rfl ⟨cc LW.out x0, cc LW.out x1, cc LW.out x2, cc LW.out x3, cc LW.out x4, cc LW.out d0, cc LW.out d1, cc LW.out d2, cc LW.out m0, cc LW.out m1, cc LW.out m2⟩ (fun hHeld => ?_); refine XH Zb.TH Zb.MQ (fun HT_ HW_ => ?_); generalize w5.drew = w6 at LW hHeld ⊢; refine pu 0 9 mMM1 HT_ ?_; refine tk 1 10 mMM2 HT_ HW_ hHeld ?_; refine pu 2 11 mMM3 HT_ ?_; refine pu 3 12 mMM4 HT_ ?_; refine tk 4 13 mMM5 HT_ HW_ hHeld ?_; refine pu 5 14 mMM6 HT_ ?_; refine tk 6 15 mMM7 HT_ HW_ hHeld ?_; refine pu 7 16 mMM8 HT_ ?_; refine pu 8 17 mMM9 HT_ ?_; refine tk 9 18 Xwh HT_ HW_ hHeld ?_
 refine Xds (σ := Nat × Nat) 2 XmT (fun s_ => [(7, .pointer (some ⟨s_.1, 0, none⟩)), (8, .pointer (some ⟨s_.2, 0, none⟩))]) (fun s_ w' => (w'.cell? ⟨w.heap.size, 0, none⟩ = some (.slice (some aD) D.length c0) ∧ w'.cell? ⟨w.heap.size, 1, none⟩ = some (.slice (some aM) M.length c1) ∧ w'.cell? ⟨w.heap.size, 2, none⟩ = some (.slice A2 L.length c2) ∧ w'.cell? ⟨w.heap.size, 3, none⟩ = some (.int .i64 s) ∧ w'.cell? ⟨w.heap.size, 4, none⟩ = some (.bool d) ∧ w'.cell? (aD.add (p.toNat * 3)) = some (.int .i64 (Xb D p).f0) ∧ w'.cell? ⟨(aD.add (p.toNat * 3)).block, (aD.add (p.toNat * 3)).off + 1, none⟩ = some (.int .i64 (Xb D p).f1) ∧ w'.cell? ⟨(aD.add (p.toNat * 3)).block, (aD.add (p.toNat * 3)).off + 2, none⟩ = some (.slice BD (Xb D p).f2.length bD) ∧ w'.cell? (aM.add (p.toNat * 3)) = some (.int .i64 (Xb M p).f0) ∧ w'.cell? ⟨(aM.add (p.toNat * 3)).block, (aM.add (p.toNat * 3)).off + 1, none⟩ = some (.int .i64 (Xb M p).f1) ∧ w'.cell? ⟨(aM.add (p.toNat * 3)).block, (aM.add (p.toNat * 3)).off + 2, none⟩ = some (.slice BM (Xb M p).f2.length bM)) ∧ (w'.heap[s_.1]? = some (.cells #[.int .i64 0, .int .i64 0, .slice none 0 0] 56 (0, 0))) ∧ (w'.heap[s_.2]? = some (.cells #[.int .i64 0, .int .i64 0, .slice none 0 0] 56 (0, 0))) ∧ (w6.heap.size ≤ s_.1 ∧ w6.heap.size ≤ s_.2 ∧ s_.1 ≠ s_.2) ∧ Below w5.heap.size w5 w') ?_ ?_; rotate_left
 ·intro hCont
  refine XkU (i := 10) (j := 11) (Ni := some 7) (Nj := some 8) Xwi Xwj rfl rfl rfl rfl (E9 HT_.out zb6) (by decide) (by decide) (fun K hK => ?_) (fun K hK => ?_)
  ·skip
   refine FR ?hg (N := 7) ?hd (cs := #[.int .i64 0, .int .i64 0, .slice none 0 0]) (t := 56) ?hr ?_; (case hd => rfl); (case hg => rfl); (case hr => exact zb7)
   intro g7 hgg7 w7 hbox hb; have LW7 := zz (Xc LW.out hb); have HX := zz hbox; have hs1 := zz (Nat.le_of_eq hgg7.symm); have hsz := zz hb.size; have hlt := zz (Z5 hbox); clear hb hbox; refine hK.out _ _ ⟨cc LW7.out x0, cc LW7.out x1, cc LW7.out x2, cc LW7.out x3, cc LW7.out x4, cc LW7.out d0, cc LW7.out d1, cc LW7.out d2, cc LW7.out m0, cc LW7.out m1, cc LW7.out m2⟩ (fun hHeld => ?_); clear hK K; refine XQ (a' := ?_) ?_ ?_; rotate_left
   ·show Act.put _ (some 7) _ = _
    simp only [Act.put, List.setIfInBounds_toArray, List.set_cons_zero, List.set_cons_succ, Xz, XF]
    rfl
   refine Zj (i := 11) (N := some 8) XmT rfl rfl (Yl HT_.out zb6) (by decide) (fun K hK => ?_)
   refine FR ?hg (N := 8) ?hd (cs := #[.int .i64 0, .int .i64 0, .slice none 0 0]) (t := 56) ?hr ?_; (case hd => rfl); (case hg => rfl); (case hr => exact zb7)
   intro g8 hgg8 w8 hbox hb; have LW8 := zz (Xc LW7.out hb); have HX8 := zz (Xk HX.out hb); refine hK.out _ _ ⟨cc LW8.out x0, cc LW8.out x1, cc LW8.out x2, cc LW8.out x3, cc LW8.out x4, cc LW8.out d0, cc LW8.out d1, cc LW8.out d2, cc LW8.out m0, cc LW8.out m1, cc LW8.out m2⟩ (fun hHeld => ?_); clear hK K; refine XQ (a' := ?_) ?_ ?_; rotate_left
   ·show Act.put _ (some 8) _ = _
    simp only [Act.put, List.setIfInBounds_toArray, List.set_cons_zero, List.set_cons_succ, Xz, XF]
    rfl
   exact XQ zb24 (hCont (g7, g8) _ ⟨⟨cc LW8.out x0, cc LW8.out x1, cc LW8.out x2, cc LW8.out x3, cc LW8.out x4, cc LW8.out d0, cc LW8.out d1, cc LW8.out d2, cc LW8.out m0, cc LW8.out m1, cc LW8.out m2⟩, HX8.out, hbox, ⟨hs1.out, Nat.le_trans hsz.out (Nat.le_of_eq hgg8.symm), by have := hlt.out; omega⟩, LW8.out⟩)
  ·skip
   refine FR ?hg (N := 8) ?hd (cs := #[.int .i64 0, .int .i64 0, .slice none 0 0]) (t := 56) ?hr ?_; (case hd => rfl); (case hg => rfl); (case hr => exact zb7)
   intro g8 hgg8 w7 hbox hb; have LW7 := zz (Xc LW.out hb); have HX := zz hbox; have hs1 := zz (Nat.le_of_eq hgg8.symm); have hsz := zz hb.size; have hlt := zz (Z5 hbox); clear hb hbox; refine hK.out _ _ ⟨cc LW7.out x0, cc LW7.out x1, cc LW7.out x2, cc LW7.out x3, cc LW7.out x4, cc LW7.out d0, cc LW7.out d1, cc LW7.out d2, cc LW7.out m0, cc LW7.out m1, cc LW7.out m2⟩ (fun hHeld => ?_); clear hK K; refine XQ (a' := ?_) ?_ ?_; rotate_left
   ·show Act.put _ (some 8) _ = _
    simp only [Act.put, List.setIfInBounds_toArray, List.set_cons_zero, List.set_cons_succ, Xz, XF]
    rfl
   refine Zj (i := 10) (N := some 7) XmT rfl rfl (Yl HT_.out zb6) (by decide) (fun K hK => ?_)
   refine FR ?hg (N := 7) ?hd (cs := #[.int .i64 0, .int .i64 0, .slice none 0 0]) (t := 56) ?hr ?_; (case hd => rfl); (case hg => rfl); (case hr => exact zb7)
   intro g7 hgg7 w8 hbox hb; have LW8 := zz (Xc LW7.out hb); have HX8 := zz (Xk HX.out hb); refine hK.out _ _ ⟨cc LW8.out x0, cc LW8.out x1, cc LW8.out x2, cc LW8.out x3, cc LW8.out x4, cc LW8.out d0, cc LW8.out d1, cc LW8.out d2, cc LW8.out m0, cc LW8.out m1, cc LW8.out m2⟩ (fun hHeld => ?_); clear hK K; refine XQ (a' := ?_) ?_ ?_; rotate_left
   ·show Act.put _ (some 7) _ = _
    simp only [Act.put, List.setIfInBounds_toArray, List.set_cons_zero, List.set_cons_succ, Xz, XF]
    rfl
   exact XQ zb24 (hCont (g7, g8) _ ⟨⟨cc LW8.out x0, cc LW8.out x1, cc LW8.out x2, cc LW8.out x3, cc LW8.out x4, cc LW8.out d0, cc LW8.out d1, cc LW8.out d2, cc LW8.out m0, cc LW8.out m1, cc LW8.out m2⟩, hbox, HX8.out, ⟨Nat.le_trans hsz.out (Nat.le_of_eq hgg7.symm), hs1.out, by have := hlt.out; omega⟩, LW8.out⟩)
 rintro ⟨g7, g8⟩ w8 ⟨hHeld, hb7, hb8, ⟨hl7, hl8, Xsw⟩, hlw⟩; simp only [M9, Act.put, List.setIfInBounds_toArray, List.set_cons_zero, List.set_cons_succ] at hb7 hb8 hl7 hl8 Xsw ⊢; have X7 := zz hb7; have X8 := zz hb8; have LW8 := zz hlw; have HN := zz (show w5.heap.size ≤ g7 ∧ w5.heap.size ≤ g8 ∧ g7 ≠ g8 from ⟨Nat.le_trans LW.out.size hl7, Nat.le_trans LW.out.size hl8, Xsw⟩); obtain ⟨k0, k1, k2⟩ := cz3 X7; obtain ⟨f0, f1, f2⟩ := fz3 X7; clear LW hb7 hb8 hlw hl7 hl8 Xsw
 have LW9 : Aside0 (Below w5.heap.size w5 (((w8.setCell ⟨g7, 0, none⟩ (.int .i64 (Xb M p).f0)).setCell ⟨g7, 1, none⟩ (.int .i64 (Xb M p).f1)).setCell ⟨g7, 2, none⟩ (.slice BM (Xb M p).f2.length bM))) := ⟨Xq (Xq (Xq LW8.out HN.out.1) HN.out.1) HN.out.1⟩
 have Y7 := zz (XX (XX (XX X7.out 0 (.int .i64 (Xb M p).f0) rfl) 1 (.int .i64 (Xb M p).f1) rfl) 2 (.slice BM (Xb M p).f2.length bM) rfl); have Y8 := zz (ZJ (ZJ (ZJ X8.out (p := ⟨g7, 0, none⟩) (fun e => HN.out.2.2 e.symm) (.int .i64 (Xb M p).f0)) (p := ⟨g7, 1, none⟩) (fun e => HN.out.2.2 e.symm) (.int .i64 (Xb M p).f1)) (p := ⟨g7, 2, none⟩) (fun e => HN.out.2.2 e.symm) (.slice BM (Xb M p).f2.length bM)); refine Zj (i := 12) (N := none) Xwk rfl rfl (Yl HT_.out zb6) (by decide) (fun K hK => ?_); refine SX (w1 := ?_) (by rfl) rfl ?_ ?_; rotate_left
 ·go_simp
  rfl
 refine hK.out _ _ ⟨cc LW9.out x0, cc LW9.out x1, cc LW9.out x2, cc LW9.out x3, cc LW9.out x4, cc LW9.out d0, cc LW9.out d1, cc LW9.out d2, cc LW9.out m0, cc LW9.out m1, cc LW9.out m2⟩ (fun hHeld => ?_); clear hK K k0 k1 k2 f0 f1 f2 X7 X8; generalize hw9 : (((w8.setCell ⟨g7, 0, none⟩ (.int .i64 (Xb M p).f0)).setCell ⟨g7, 1, none⟩ (.int .i64 (Xb M p).f1)).setCell ⟨g7, 2, none⟩ (.slice BM (Xb M p).f2.length bM)) = w9 at LW9 Y7 Y8 hHeld ⊢; clear hw9 LW8; obtain ⟨k0, k1, k2⟩ := cz3 Y8; obtain ⟨f0, f1, f2⟩ := fz3 Y8; refine Xjp (i := 13) (N := none) Xwl rfl rfl (Yl HT_.out zb6) (by decide) (fun K hK => ?_); refine SX (w1 := ?_) (by rfl) rfl ?_ ?_; rotate_left
 ·go_simp
  rfl
 refine hK.out _ _ ?_; clear hK K; refine YX (YA HT_.out zb6) ?_
 have LW10 : Aside0 (Below w5.heap.size w5 (((w9.setCell ⟨g8, 0, none⟩ (.int .i64 (Xb D p).f0)).setCell ⟨g8, 1, none⟩ (.int .i64 (Xb D p).f1)).setCell ⟨g8, 2, none⟩ (.slice BD (Xb D p).f2.length bD))) := ⟨Xq (Xq (Xq LW9.out HN.out.2.1) HN.out.2.1) HN.out.2.1⟩
 have Z8 := zz (XX (XX (XX Y8.out 0 (.int .i64 (Xb D p).f0) rfl) 1 (.int .i64 (Xb D p).f1) rfl) 2 (.slice BD (Xb D p).f2.length bD) rfl); have Z7 := zz (ZJ (ZJ (ZJ Y7.out (p := ⟨g8, 0, none⟩) HN.out.2.2 (.int .i64 (Xb D p).f0)) (p := ⟨g8, 1, none⟩) HN.out.2.2 (.int .i64 (Xb D p).f1)) (p := ⟨g8, 2, none⟩) HN.out.2.2 (.slice BD (Xb D p).f2.length bD)); generalize hw10 : (((w9.setCell ⟨g8, 0, none⟩ (.int .i64 (Xb D p).f0)).setCell ⟨g8, 1, none⟩ (.int .i64 (Xb D p).f1)).setCell ⟨g8, 2, none⟩ (.slice BD (Xb D p).f2.length bD)) = w10 at LW10 Z7 Z8 ⊢; clear hw10 LW9 Y7 Y8 k0 k1 k2 f0 f1 f2 hHeld; have z0 := cc LW10.out x0; have z1 := cc LW10.out x1; have z2 := cc LW10.out x2; have z3 := cc LW10.out x3; have z4 := cc LW10.out x4
 go_wp2_with fail
 refine (XbB A2 c2 L p _ hg2 (Kd.Xg CL.out LW10.out) HCL.out).mono ?_; rintro e w11 ⟨rfl, hb⟩; have LW11 := zz (Xc LW10.out hb); have Z71 := zz (Xk Z7.out hb); have Z81 := zz (Xk Z8.out hb); clear hb LW10 Z7 Z8 z0 z1 z2 z3 z4; obtain ⟨k0, k1, k2⟩ := cz3 Z71; obtain ⟨l0, l1, l2⟩ := cz3 Z81; have v0 := cc LW11.out y0; have v1 := cc LW11.out y1; have v2 := cc LW11.out y2; have z0 := cc LW11.out x0; have z1 := cc LW11.out x1; have z2 := cc LW11.out x2; have z3 := cc LW11.out x3; have z4 := cc LW11.out x4
 cases hLd : JL L p with
 | false =>
  go_wp2_with fail
  refine (J4.calls 1002 (Xb M p).f0 (Xb M p).f1 BM bM (Xb M p).f2 q.f0 q.f1 A3 c3 q.f2 (VC (pg M p) q) _ (Kd.Xg IM.out LW11.out) JM.out (Kd.Xg CQ.out LW11.out) HCQ.out (RL (Nat.le_trans (Nat.le_of_eq (HVM.out.ok p hp0 hp5)) (by omega)) hq3 1002 (by omega))).mono ?_; rintro e w12 ⟨rfl, hb⟩; have LW12 := zz (Xc LW11.out hb); clear hb
  go_wp2
  all_goals (go_ret; exact ⟨by rw [show b = VC (pg M p) q from by rw [← HBv.out, if_neg (by rw [hLd]; simp)]]; first | done | rfl, Xc LB5.out LW12.out⟩)
 | true =>
  go_upto_region 4 with (fail)
  cases h1 : ((Xb M p).f1 == q.f1) with
  | false =>
   have LW13 : Aside0 (Below w5.heap.size w5 w11.drew) := ⟨Xx LW11.out⟩
   have Z72 : Aside0 (w11.drew.heap[g7]? = _) := ⟨XB Z71.out⟩
   have Z82 : Aside0 (w11.drew.heap[g8]? = _) := ⟨XB Z81.out⟩
   refine Yw (n := 27) (S := fun w' => w'.cell? ⟨w.heap.size, 0, none⟩ = some (.slice (some aD) D.length c0) ∧ w'.cell? ⟨w.heap.size, 1, none⟩ = some (.slice (some aM) M.length c1) ∧ w'.cell? ⟨w.heap.size, 2, none⟩ = some (.slice A2 L.length c2) ∧ w'.cell? ⟨w.heap.size, 3, none⟩ = some (.int .i64 s) ∧ w'.cell? ⟨w.heap.size, 4, none⟩ = some (.bool d) ∧ w'.cell? ⟨w.heap.size + 1, 0, none⟩ = some (.int .i64 q.f0) ∧ w'.cell? ⟨w.heap.size + 1, 1, none⟩ = some (.int .i64 q.f1) ∧ w'.cell? ⟨w.heap.size + 1, 2, none⟩ = some (.slice A3 q.f2.length c3) ∧ w'.cell? ⟨g7, 0, none⟩ = some (.int .i64 (Xb M p).f0) ∧ w'.cell? ⟨g7, 1, none⟩ = some (.int .i64 (Xb M p).f1) ∧ w'.cell? ⟨g7, 2, none⟩ = some (.slice BM (Xb M p).f2.length bM) ∧ w'.cell? ⟨g8, 0, none⟩ = some (.int .i64 (Xb D p).f0) ∧ w'.cell? ⟨g8, 1, none⟩ = some (.int .i64 (Xb D p).f1) ∧ w'.cell? ⟨g8, 2, none⟩ = some (.slice BD (Xb D p).f2.length bD)) (ds := []) Xjv zb6 rfl rfl ⟨cc LW13.out x0, cc LW13.out x1, cc LW13.out x2, cc LW13.out x3, cc LW13.out x4, cc LW13.out y0, cc LW13.out y1, cc LW13.out y2, (Xd Z72.out 0).trans rfl, (Xd Z72.out 1).trans rfl, (Xd Z72.out 2).trans rfl, (Xd Z82.out 0).trans rfl, (Xd Z82.out 1).trans rfl, (Xd Z82.out 2).trans rfl⟩ (fun hHeld => ?_); refine XH Zb.TE Zb.MN (fun HT_ HW_ => ?_); generalize w11.drew = w13 at LW13 Z72 Z82 hHeld ⊢; clear LW11 Z71 Z81 k0 k1 k2 l0 l1 l2 v0 v1 v2 z0 z1 z2 z3 z4; refine pu 0 27 Xjw HT_ ?_; refine tk 1 28 Xjx HT_ HW_ hHeld ?_; refine pu 2 29 Xjy HT_ ?_; refine tk 3 30 Xjz HT_ HW_ hHeld ?_
   refine pu 4 31 Xj0 HT_ ?_; refine pu 5 32 Xj1 HT_ ?_; refine pn 6 33 Xj2 HT_ ?_; refine pn 7 34 Xj3 HT_ ?_; refine pn 8 35 Xj4 HT_ ?_; refine pn 9 36 Xj5 HT_ ?_; refine pn 10 37 Xj6 HT_ ?_; refine pn 11 38 Xj7 HT_ ?_; refine pn 12 39 Xj8 HT_ ?_; refine pu 13 40 Xj9 HT_ ?_; refine pu 14 41 XjA HT_ ?_; refine pn 15 42 XjB HT_ ?_; refine pn 16 43 XjC HT_ ?_; refine pn 17 44 XjD HT_ ?_; refine pn 18 45 XjE HT_ ?_; refine pn 19 46 XjF HT_ ?_; refine pn 20 47 XjG HT_ ?_; refine pn 21 48 XjH HT_ ?_; refine pn 22 49 XjI HT_ ?_; refine pn 23 50 XjJ HT_ ?_; refine pn 24 51 XjK HT_ ?_; refine pu 25 52 XjL HT_ ?_; refine pu 26 6 XjM HT_ ?_; refine YX (YA HT_.out zb6) ?_; clear hHeld
   go_wp2
   go_ret
   exact ⟨by rw [show b = false from by rw [← HBv.out, if_pos hLd]; unfold De; rw [show ((pg M p).f1 == q.f1) = false from h1, Bool.and_false]]; first | done | rfl, Xc LB5.out LW13.out⟩
  | true =>
   cases h2 : ((Xb M p).f0 == Vm L p) with
   | false =>
    have LW13 : Aside0 (Below w5.heap.size w5 w11.drew) := ⟨Xx LW11.out⟩
    have Z72 : Aside0 (w11.drew.heap[g7]? = _) := ⟨XB Z71.out⟩
    have Z82 : Aside0 (w11.drew.heap[g8]? = _) := ⟨XB Z81.out⟩
    refine Yw (n := 27) (S := fun w' => w'.cell? ⟨w.heap.size, 0, none⟩ = some (.slice (some aD) D.length c0) ∧ w'.cell? ⟨w.heap.size, 1, none⟩ = some (.slice (some aM) M.length c1) ∧ w'.cell? ⟨w.heap.size, 2, none⟩ = some (.slice A2 L.length c2) ∧ w'.cell? ⟨w.heap.size, 3, none⟩ = some (.int .i64 s) ∧ w'.cell? ⟨w.heap.size, 4, none⟩ = some (.bool d) ∧ w'.cell? ⟨w.heap.size + 1, 0, none⟩ = some (.int .i64 q.f0) ∧ w'.cell? ⟨w.heap.size + 1, 1, none⟩ = some (.int .i64 q.f1) ∧ w'.cell? ⟨w.heap.size + 1, 2, none⟩ = some (.slice A3 q.f2.length c3) ∧ w'.cell? ⟨g7, 0, none⟩ = some (.int .i64 (Xb M p).f0) ∧ w'.cell? ⟨g7, 1, none⟩ = some (.int .i64 (Xb M p).f1) ∧ w'.cell? ⟨g7, 2, none⟩ = some (.slice BM (Xb M p).f2.length bM) ∧ w'.cell? ⟨g8, 0, none⟩ = some (.int .i64 (Xb D p).f0) ∧ w'.cell? ⟨g8, 1, none⟩ = some (.int .i64 (Xb D p).f1) ∧ w'.cell? ⟨g8, 2, none⟩ = some (.slice BD (Xb D p).f2.length bD)) (ds := []) Xjv zb6 rfl rfl ⟨cc LW13.out x0, cc LW13.out x1, cc LW13.out x2, cc LW13.out x3, cc LW13.out x4, cc LW13.out y0, cc LW13.out y1, cc LW13.out y2, (Xd Z72.out 0).trans rfl, (Xd Z72.out 1).trans rfl, (Xd Z72.out 2).trans rfl, (Xd Z82.out 0).trans rfl, (Xd Z82.out 1).trans rfl, (Xd Z82.out 2).trans rfl⟩ (fun hHeld => ?_); refine XH Zb.TE Zb.MN (fun HT_ HW_ => ?_); generalize w11.drew = w13 at LW13 Z72 Z82 hHeld ⊢; clear LW11 Z71 Z81 k0 k1 k2 l0 l1 l2 v0 v1 v2 z0 z1 z2 z3 z4; refine pu 0 27 Xjw HT_ ?_; refine tk 1 28 Xjx HT_ HW_ hHeld ?_; refine pu 2 29 Xjy HT_ ?_; refine tk 3 30 Xjz HT_ HW_ hHeld ?_
    refine pu 4 31 Xj0 HT_ ?_; refine pu 5 32 Xj1 HT_ ?_; refine pu 6 33 Xj2 HT_ ?_; refine tk 7 34 Xj3 HT_ HW_ hHeld ?_; refine pu 8 35 Xj4 HT_ ?_; refine tk 9 36 Xj5 HT_ HW_ hHeld ?_; refine pu 10 37 Xj6 HT_ ?_; refine Zj (i := 11) (N := some 38) Xj7 rfl rfl (Yl HT_.out zb6) (by decide) (fun K hK => ?_); refine YI Tryz.func86 zb6 rfl #[.slice A2 L.length c2, .int .i64 p] (by rfl) rfl rfl zb2 ?_
    with_reducible refine (Dz.calls 1 A2 c2 L p (Vm L p) _ (Kd.Xg CL.out LW13.out) HCL.out rfl).mono ?_
    rintro e w14 ⟨rfl, hb⟩; refine ⟨_, rfl, ?_⟩; have LW14 := zz (Xc LW13.out hb); have Z73 := zz (Xk Z72.out hb); have Z83 := zz (Xk Z82.out hb); clear hb LW13 Z72 Z82; refine hK.out _ _ ⟨cc LW14.out x0, cc LW14.out x1, cc LW14.out x2, cc LW14.out x3, cc LW14.out x4, cc LW14.out y0, cc LW14.out y1, cc LW14.out y2, (Xd Z73.out 0).trans rfl, (Xd Z73.out 1).trans rfl, (Xd Z73.out 2).trans rfl, (Xd Z83.out 0).trans rfl, (Xd Z83.out 1).trans rfl, (Xd Z83.out 2).trans rfl⟩ (fun hHeld => ?_); clear hK K; refine XQ (a' := ?_) ?_ ?_; rotate_left
    ·show Act.put _ (some 38) _ = _
     simp only [Act.put, List.setIfInBounds_toArray, List.set_cons_zero, List.set_cons_succ, Xz, XF]
     rfl
    refine pu 12 39 Xj8 HT_ ?_; refine pu 13 40 Xj9 HT_ ?_; refine pu 14 41 XjA HT_ ?_; refine pn 15 42 XjB HT_ ?_; refine pn 16 43 XjC HT_ ?_; refine pn 17 44 XjD HT_ ?_; refine pn 18 45 XjE HT_ ?_; refine pn 19 46 XjF HT_ ?_; refine pn 20 47 XjG HT_ ?_; refine pn 21 48 XjH HT_ ?_; refine pn 22 49 XjI HT_ ?_; refine pn 23 50 XjJ HT_ ?_; refine pn 24 51 XjK HT_ ?_; refine pu 25 52 XjL HT_ ?_; refine pu 26 6 XjM HT_ ?_; refine YX (YA HT_.out zb6) ?_; clear hHeld
    go_wp2
    go_ret
    exact ⟨by rw [show b = false from by rw [← HBv.out, if_pos hLd]; unfold De; rw [show ((pg M p).f0 == Vm L p) = false from h2, Bool.false_and, Bool.false_and]]; first | done | rfl, Xc LB5.out LW14.out⟩
   | true =>
    cases h3 : decide ((Xb D p).f0 < (Xb M p).f0) with
    | true =>
     have LW13 : Aside0 (Below w5.heap.size w5 w11.drew) := ⟨Xx LW11.out⟩
     have Z72 : Aside0 (w11.drew.heap[g7]? = _) := ⟨XB Z71.out⟩
     have Z82 : Aside0 (w11.drew.heap[g8]? = _) := ⟨XB Z81.out⟩
     refine Yw (n := 27) (S := fun w' => w'.cell? ⟨w.heap.size, 0, none⟩ = some (.slice (some aD) D.length c0) ∧ w'.cell? ⟨w.heap.size, 1, none⟩ = some (.slice (some aM) M.length c1) ∧ w'.cell? ⟨w.heap.size, 2, none⟩ = some (.slice A2 L.length c2) ∧ w'.cell? ⟨w.heap.size, 3, none⟩ = some (.int .i64 s) ∧ w'.cell? ⟨w.heap.size, 4, none⟩ = some (.bool d) ∧ w'.cell? ⟨w.heap.size + 1, 0, none⟩ = some (.int .i64 q.f0) ∧ w'.cell? ⟨w.heap.size + 1, 1, none⟩ = some (.int .i64 q.f1) ∧ w'.cell? ⟨w.heap.size + 1, 2, none⟩ = some (.slice A3 q.f2.length c3) ∧ w'.cell? ⟨g7, 0, none⟩ = some (.int .i64 (Xb M p).f0) ∧ w'.cell? ⟨g7, 1, none⟩ = some (.int .i64 (Xb M p).f1) ∧ w'.cell? ⟨g7, 2, none⟩ = some (.slice BM (Xb M p).f2.length bM) ∧ w'.cell? ⟨g8, 0, none⟩ = some (.int .i64 (Xb D p).f0) ∧ w'.cell? ⟨g8, 1, none⟩ = some (.int .i64 (Xb D p).f1) ∧ w'.cell? ⟨g8, 2, none⟩ = some (.slice BD (Xb D p).f2.length bD)) (ds := []) Xjv zb6 rfl rfl ⟨cc LW13.out x0, cc LW13.out x1, cc LW13.out x2, cc LW13.out x3, cc LW13.out x4, cc LW13.out y0, cc LW13.out y1, cc LW13.out y2, (Xd Z72.out 0).trans rfl, (Xd Z72.out 1).trans rfl, (Xd Z72.out 2).trans rfl, (Xd Z82.out 0).trans rfl, (Xd Z82.out 1).trans rfl, (Xd Z82.out 2).trans rfl⟩ (fun hHeld => ?_); refine XH Zb.TE Zb.MN (fun HT_ HW_ => ?_); generalize w11.drew = w13 at LW13 Z72 Z82 hHeld ⊢; clear LW11 Z71 Z81 k0 k1 k2 l0 l1 l2 v0 v1 v2 z0 z1 z2 z3 z4; refine pu 0 27 Xjw HT_ ?_; refine tk 1 28 Xjx HT_ HW_ hHeld ?_; refine pu 2 29 Xjy HT_ ?_; refine tk 3 30 Xjz HT_ HW_ hHeld ?_
     refine pu 4 31 Xj0 HT_ ?_; refine pu 5 32 Xj1 HT_ ?_; refine pu 6 33 Xj2 HT_ ?_; refine tk 7 34 Xj3 HT_ HW_ hHeld ?_; refine pu 8 35 Xj4 HT_ ?_; refine tk 9 36 Xj5 HT_ HW_ hHeld ?_; refine pu 10 37 Xj6 HT_ ?_; refine Zj (i := 11) (N := some 38) Xj7 rfl rfl (Yl HT_.out zb6) (by decide) (fun K hK => ?_); refine YI Tryz.func86 zb6 rfl #[.slice A2 L.length c2, .int .i64 p] (by rfl) rfl rfl zb2 ?_
     with_reducible refine (Dz.calls 1 A2 c2 L p (Vm L p) _ (Kd.Xg CL.out LW13.out) HCL.out rfl).mono ?_
     rintro e w14 ⟨rfl, hb⟩; refine ⟨_, rfl, ?_⟩; have LW14 := zz (Xc LW13.out hb); have Z73 := zz (Xk Z72.out hb); have Z83 := zz (Xk Z82.out hb); clear hb LW13 Z72 Z82; refine hK.out _ _ ⟨cc LW14.out x0, cc LW14.out x1, cc LW14.out x2, cc LW14.out x3, cc LW14.out x4, cc LW14.out y0, cc LW14.out y1, cc LW14.out y2, (Xd Z73.out 0).trans rfl, (Xd Z73.out 1).trans rfl, (Xd Z73.out 2).trans rfl, (Xd Z83.out 0).trans rfl, (Xd Z83.out 1).trans rfl, (Xd Z83.out 2).trans rfl⟩ (fun hHeld => ?_); clear hK K; refine XQ (a' := ?_) ?_ ?_; rotate_left
     ·show Act.put _ (some 38) _ = _
      simp only [Act.put, List.setIfInBounds_toArray, List.set_cons_zero, List.set_cons_succ, Xz, XF]
      rfl
     refine pu 12 39 Xj8 HT_ ?_; refine pu 13 40 Xj9 HT_ ?_; refine pu 14 41 XjA HT_ ?_; refine pu 15 42 XjB HT_ ?_; refine tk 16 43 XjC HT_ HW_ hHeld ?_; refine pu 17 44 XjD HT_ ?_; refine tk 18 45 XjE HT_ HW_ hHeld ?_; refine pu 19 46 XjF HT_ ?_; refine pu 20 47 XjG HT_ ?_; refine pn 21 48 XjH HT_ ?_; refine pn 22 49 XjI HT_ ?_; refine pn 23 50 XjJ HT_ ?_; refine pu 24 51 XjK HT_ ?_; refine pu 25 52 XjL HT_ ?_; refine pu 26 6 XjM HT_ ?_; refine YX (YA HT_.out zb6) ?_; clear hHeld
     go_wp2
     go_ret
     exact ⟨by rw [show b = true from by rw [← HBv.out, if_pos hLd]; unfold De; rw [show ((pg M p).f0 == Vm L p) = true from h2, show decide ((pg D p).f0 < (pg M p).f0) = true from h3, show ((pg M p).f1 == q.f1) = true from h1, Bool.true_or, Bool.true_and, Bool.true_and]]; first | done | rfl, Xc LB5.out LW14.out⟩
    | false =>
     have LW13 : Aside0 (Below w5.heap.size w5 w11.drew) := ⟨Xx LW11.out⟩
     have Z72 : Aside0 (w11.drew.heap[g7]? = _) := ⟨XB Z71.out⟩
     have Z82 : Aside0 (w11.drew.heap[g8]? = _) := ⟨XB Z81.out⟩
     refine Yw (n := 27) (S := fun w' => w'.cell? ⟨w.heap.size, 0, none⟩ = some (.slice (some aD) D.length c0) ∧ w'.cell? ⟨w.heap.size, 1, none⟩ = some (.slice (some aM) M.length c1) ∧ w'.cell? ⟨w.heap.size, 2, none⟩ = some (.slice A2 L.length c2) ∧ w'.cell? ⟨w.heap.size, 3, none⟩ = some (.int .i64 s) ∧ w'.cell? ⟨w.heap.size, 4, none⟩ = some (.bool d) ∧ w'.cell? ⟨w.heap.size + 1, 0, none⟩ = some (.int .i64 q.f0) ∧ w'.cell? ⟨w.heap.size + 1, 1, none⟩ = some (.int .i64 q.f1) ∧ w'.cell? ⟨w.heap.size + 1, 2, none⟩ = some (.slice A3 q.f2.length c3) ∧ w'.cell? ⟨g7, 0, none⟩ = some (.int .i64 (Xb M p).f0) ∧ w'.cell? ⟨g7, 1, none⟩ = some (.int .i64 (Xb M p).f1) ∧ w'.cell? ⟨g7, 2, none⟩ = some (.slice BM (Xb M p).f2.length bM) ∧ w'.cell? ⟨g8, 0, none⟩ = some (.int .i64 (Xb D p).f0) ∧ w'.cell? ⟨g8, 1, none⟩ = some (.int .i64 (Xb D p).f1) ∧ w'.cell? ⟨g8, 2, none⟩ = some (.slice BD (Xb D p).f2.length bD)) (ds := []) Xjv zb6 rfl rfl ⟨cc LW13.out x0, cc LW13.out x1, cc LW13.out x2, cc LW13.out x3, cc LW13.out x4, cc LW13.out y0, cc LW13.out y1, cc LW13.out y2, (Xd Z72.out 0).trans rfl, (Xd Z72.out 1).trans rfl, (Xd Z72.out 2).trans rfl, (Xd Z82.out 0).trans rfl, (Xd Z82.out 1).trans rfl, (Xd Z82.out 2).trans rfl⟩ (fun hHeld => ?_); refine XH Zb.TE Zb.MN (fun HT_ HW_ => ?_); generalize w11.drew = w13 at LW13 Z72 Z82 hHeld ⊢; clear LW11 Z71 Z81 k0 k1 k2 l0 l1 l2 v0 v1 v2 z0 z1 z2 z3 z4; refine pu 0 27 Xjw HT_ ?_; refine tk 1 28 Xjx HT_ HW_ hHeld ?_; refine pu 2 29 Xjy HT_ ?_; refine tk 3 30 Xjz HT_ HW_ hHeld ?_
     refine pu 4 31 Xj0 HT_ ?_; refine pu 5 32 Xj1 HT_ ?_; refine pu 6 33 Xj2 HT_ ?_; refine tk 7 34 Xj3 HT_ HW_ hHeld ?_; refine pu 8 35 Xj4 HT_ ?_; refine tk 9 36 Xj5 HT_ HW_ hHeld ?_; refine pu 10 37 Xj6 HT_ ?_; refine Zj (i := 11) (N := some 38) Xj7 rfl rfl (Yl HT_.out zb6) (by decide) (fun K hK => ?_); refine YI Tryz.func86 zb6 rfl #[.slice A2 L.length c2, .int .i64 p] (by rfl) rfl rfl zb2 ?_
     with_reducible refine (Dz.calls 1 A2 c2 L p (Vm L p) _ (Kd.Xg CL.out LW13.out) HCL.out rfl).mono ?_
     rintro e w14 ⟨rfl, hb⟩; refine ⟨_, rfl, ?_⟩; have LW14 := zz (Xc LW13.out hb); have Z73 := zz (Xk Z72.out hb); have Z83 := zz (Xk Z82.out hb); clear hb LW13 Z72 Z82; refine hK.out _ _ ⟨cc LW14.out x0, cc LW14.out x1, cc LW14.out x2, cc LW14.out x3, cc LW14.out x4, cc LW14.out y0, cc LW14.out y1, cc LW14.out y2, (Xd Z73.out 0).trans rfl, (Xd Z73.out 1).trans rfl, (Xd Z73.out 2).trans rfl, (Xd Z83.out 0).trans rfl, (Xd Z83.out 1).trans rfl, (Xd Z83.out 2).trans rfl⟩ (fun hHeld => ?_); clear hK K; refine XQ (a' := ?_) ?_ ?_; rotate_left
     ·show Act.put _ (some 38) _ = _
      simp only [Act.put, List.setIfInBounds_toArray, List.set_cons_zero, List.set_cons_succ, Xz, XF]
      rfl
     refine pu 12 39 Xj8 HT_ ?_; refine pu 13 40 Xj9 HT_ ?_; refine pu 14 41 XjA HT_ ?_; refine pu 15 42 XjB HT_ ?_; refine tk 16 43 XjC HT_ HW_ hHeld ?_; refine pu 17 44 XjD HT_ ?_; refine tk 18 45 XjE HT_ HW_ hHeld ?_; refine pu 19 46 XjF HT_ ?_; refine pu 20 47 XjG HT_ ?_; refine tk 21 48 XjH HT_ HW_ hHeld ?_; refine tk 22 49 XjI HT_ HW_ hHeld ?_; refine Zj (i := 23) (N := some 50) XjJ rfl rfl (Yl HT_.out zb6) (by decide) (fun K hK => ?_); refine YI Tryz.func54 zb6 rfl #[.agg #[.int .i64 (Xb M p).f0, .int .i64 (Xb M p).f1, .slice BM (Xb M p).f2.length bM], .agg #[.int .i64 (Xb D p).f0, .int .i64 (Xb D p).f1, .slice BD (Xb D p).f2.length bD]] (by rfl) rfl rfl zb2 ?_
     with_reducible refine (J4.calls 1002 (Xb M p).f0 (Xb M p).f1 BM bM (Xb M p).f2 (Xb D p).f0 (Xb D p).f1 BD bD (Xb D p).f2 (VC (pg M p) (pg D p)) _ (Kd.Xg IM.out LW14.out) JM.out (Kd.Xg ID.out LW14.out) JD.out (RL (Nat.le_trans (Nat.le_of_eq (HVM.out.ok p hp0 hp5)) (by omega)) (Nat.le_trans (Nat.le_of_eq (HV.out.ok p hp0 hp5)) (by omega)) 1002 (by omega))).mono ?_
     rintro e w15 ⟨rfl, hb⟩; refine ⟨_, rfl, ?_⟩; have LW15 := zz (Xc LW14.out hb); have Z74 := zz (Xk Z73.out hb); have Z84 := zz (Xk Z83.out hb); clear hb LW14 Z73 Z83; refine hK.out _ _ ⟨cc LW15.out x0, cc LW15.out x1, cc LW15.out x2, cc LW15.out x3, cc LW15.out x4, cc LW15.out y0, cc LW15.out y1, cc LW15.out y2, (Xd Z74.out 0).trans rfl, (Xd Z74.out 1).trans rfl, (Xd Z74.out 2).trans rfl, (Xd Z84.out 0).trans rfl, (Xd Z84.out 1).trans rfl, (Xd Z84.out 2).trans rfl⟩ (fun hHeld => ?_); clear hK K; refine XQ (a' := ?_) ?_ ?_; rotate_left
     ·show Act.put _ (some 50) _ = _
      simp only [Act.put, List.setIfInBounds_toArray, List.set_cons_zero, List.set_cons_succ, Xz, XF]
      rfl
     refine pu 24 51 XjK HT_ ?_; refine pu 25 52 XjL HT_ ?_; refine pu 26 6 XjM HT_ ?_; refine YX (YA HT_.out zb6) ?_; clear hHeld
     go_wp2
     go_ret
     exact ⟨by rw [show b = VC (pg M p) (pg D p) from by rw [← HBv.out, if_pos hLd]; unfold De; rw [show ((pg M p).f0 == Vm L p) = true from h2, show decide ((pg D p).f0 < (pg M p).f0) = false from h3, show ((pg M p).f1 == q.f1) = true from h1, Bool.true_and, Bool.false_or, Bool.and_true]]; first | done | rfl, Xc LB5.out LW15.out⟩
end Go.Proofs.YtphnphmbfogmlaaGreat.Pr
