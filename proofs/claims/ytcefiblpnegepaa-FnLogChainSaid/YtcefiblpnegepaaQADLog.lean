import Derived.Test.YtcefiblpnegepaaQAByq
import Derived.Test.YtcefiblpnegepaaQASh
import Derived.Test.YtcefiblpnegepaaQAL71L
import Derived.Test.YtcefiblpnegepaaQAPrLO2
namespace Go.Proofs.Ytcefiblpnegepaa.Pr
open Go.RowKit Go.PW Go.PL Go.PM
attribute [local go_sem] YB YC Zc Zd Yn Yo YD YE
set_option linter.unusedVariables false
set_option linter.unusedSimpArgs false
abbrev Xow : Array Bool := #[false, false, false, false, false, false, false, false, false, false]
abbrev Xox : Array Bool := #[true, false, false, false, false, false, false, false, false, false]
abbrev Xoy : Array Bool := #[true, true, false, false, false, false, false, false, false, false]
abbrev Xoz : Array Bool := #[true, true, true, false, false, false, false, false, false, false]
abbrev Xo0 : Array Bool := #[true, true, true, true, false, false, false, false, false, false]
abbrev Xo1 : Array Bool := #[true, true, true, true, true, false, false, false, false, false]
abbrev Xo2 : Array Bool := #[true, true, true, true, true, true, false, false, false, false]
abbrev Xo3 : Array Bool := #[true, true, true, true, true, true, true, false, false, false]
abbrev Xo4 : Array Bool := #[true, true, true, true, true, true, true, true, false, false]
abbrev Xo5 : Array Bool := #[true, true, true, true, true, true, true, true, true, false]
abbrev Xk9 : Array Bool := #[true, true, true, true, true, true, true, true, true, true]
theorem LS.q {w : World} {base : Nat} {v : Value} {l : List S41} (h : LS w base v l) : Kd.Q k41 41 w base (fun _ => True) v l := by
  rcases h with h | ⟨g', c, ys, h, h1, rfl, rfl⟩
  · exact Kd.Td h
  · have hD := Kd.XgZ (k := 1) (Kd.Td h) (by omega)
    have hc := (Kd.Xk h).2.1; rw [if_neg (by omega)] at hD; simp only [Option.map_some, Addr.add_lit] at hD; rw [show 0 + 1 * k41.sz = 8 from rfl] at hD; exact hD
def JP.f (k : Nat) (l0 : List Int) : Option (List S41) := (VU.f l0).bind fun o => (JQ.f k o.1 o.2).bind fun y => (Xb.f k o.1 y.2 5).bind fun t => if t.1 = 0 then (if (y.1.length : Int) < 1000 then ((X4.f k o.1 t.2).bind fun r => some (y.1 ++ [⟨r.1, r.2.1, r.2.2.1, r.2.2.2.1, r.2.2.2.2.1, r.2.2.2.2.2.1, r.2.2.2.2.2.2.1, r.2.2.2.2.2.2.2.1⟩])) else none) else some y.1
def X6.l0 : Nat → List Int → Int → List S41 → Int → Option (List S41 × Int)
  | 0, _, _, _, _ => none
  | k + 1, s0, sp, l, i => if i < 5 then ((Xb.f k s0 sp 8).bind fun t => if t.1 > 0 then ((XT.f k l).bind fun o => if (o.length : Int) > 0 then ((Xb.f k s0 t.2 (o.length : Int)).bind fun a => if 0 ≤ a.1 then (if a.1 < (o.length : Int) then some (l, rd o a.1) else none) else none) else ((JQ.f k s0 t.2).bind fun y => X6.l0 k s0 y.2 y.1 (wrap64 (i + 1)))) else ((Xb.f k s0 t.2 5).bind fun q => some (l, q.1))) else ((Xb.f k s0 sp 5).bind fun q => some (l, q.1))
def X6.f (k : Nat) (l0 : List Int) : Option (List S41 × Int) := (VU.f l0).bind fun o => (JQ.f k o.1 o.2).bind fun y => X6.l0 k o.1 y.2 y.1 0
set_option maxHeartbeats 8000000 in
set_option maxRecDepth 100000 in
theorem JP.calls (k : Nat) (A0 : Option Addr) (c0 : Nat) (l0 : List Int) (r : List S41) (w : World) (hr0 : Kd.C (Kd.int .u8) w A0 l0.length l0) (hc0 : l0.length ≤ c0) (h : JP.f k l0 = some r) :
    Calls Try.prog 67 #[.slice A0 l0.length c0] w fun e w' => ∃ v0_ : Value, e = .returned (v0_) ∧ Kd.Q k41 41 w' w.heap.size (fun _ => True) v0_ r ∧ Below w.heap.size w w' := by
  have HR := zz hr0; have HC := zz hc0
  unfold JP.f at h
  replace h := Option.bind_eq_some_iff.mp h; obtain ⟨⟨s0, s1⟩, ho, h⟩ := h; replace h := Option.bind_eq_some_iff.mp h; obtain ⟨⟨y, p1⟩, hy, h⟩ := h; replace h := Option.bind_eq_some_iff.mp h; obtain ⟨⟨t, p2⟩, ht, h⟩ := h; have A0_ := zz ho; have A1_ := zz hy; have A2_ := zz ht; have H := zz h; clear hr0 hc0 ho hy ht h
  go_enter Try.func67, Try.ntmps67
  go_wp2_with fail
  refine (VU.calls A0 c0 l0 s0 s1 w w (Below.refl _ _) HR.out HC.out A0_.out).mono ?_; rintro e w1 ⟨g, rfl, hI1, hB1, _⟩; have I1 := zz hI1; have LB1 := zz hB1; have HGW := zz hI1.lt; clear hI1 hB1
  go_wp2_with fail
  refine (JQ.to k g s0 s1 y p1 w w1 I1.out LB1.out A1_.out).mono ?_; rintro e w2 ⟨v, rfl, hL, hI2, hB2, hK2⟩; have RL2 := zz hL; have I2 := zz hI2; have LB2 := zz hB2; clear hL hI2 hB2 hK2 I1 LB1
  go_wp2_with fail
  refine (Xb.calls k g s0 p1 5 t p2 w _ I2.out LB2.out A2_.out).mono ?_; rintro e w3 ⟨rfl, hI, hB, hK⟩; have I3 := zz hI; have LB3 := zz hB; have RL3 := zz (RL2.out.keep hK HGW.out); clear hI hB hK I2 LB2 RL2; have h := H.out; clear H
  by_cases q0 : t = 0
  · rw [if_pos q0] at h
    subst q0
    by_cases qn : (y.length : Int) < 1000
    rotate_left
    · rw [if_neg qn] at h
      exact absurd h (by simp)
    rw [if_pos qn] at h; have QN := zz qn; replace h := Option.bind_eq_some_iff.mp h; obtain ⟨⟨b1, b2, b3, b4, b5, b6, b7, b8, b9⟩, hb, h⟩ := h; have A3_ := zz hb; simp only [Option.some.injEq] at h; subst h; clear qn hb
    go_wp2_with fail
    refine (X4.calls k g s0 p2 b1 b2 b3 b4 b5 b6 b7 b8 b9 w _ I3.out LB3.out A3_.out).mono ?_; rintro e w4 ⟨rfl, hI, hB, hK⟩; have I4 := zz hI; have LB4 := zz hB; have hL := RL3.out.keep hK HGW.out; clear hI hB hK I3 LB3 RL3
    rcases hL with hL | ⟨g2, c2, ys, hL, hys, rfl, rfl⟩
    · have RL4 := zz hL
      clear hL
      go_wp2_with (first | ((with_reducible refine XO (N := 15) rfl ?_); refine Kd.Gp k41 (w0 := w4) _ 41 ?hg (N := 15) ?hd (xs := ([(⟨b1, b2, b3, b4, b5, b6, b7, b8⟩ : S41)] : List S41)) (inner := [.int .i64 b1, .int .i64 b2, .int .i64 b3, .int .i64 b4, .int .i64 b5, .int .i64 b6, .int .i64 b7, .int .i64 b8]) (ok := fun _ => True) (okp := fun _ => True) ?hr ?hp (fun _ hk => hk) trivial (Below.refl (w4).heap.size w4) (Nat.le_refl _) (by simp) ?_; (case hd => rfl); (case hg => rfl); (case hr => exact zb22); (case hp => exact zb134); intro v21 w5 ho hb hg hat; obtain ⟨AN, cN, eN, _, hCN⟩ := Kd.Mg ho; subst eN; obtain ⟨an, ean, _⟩ := hCN.2.2 (by simp); subst ean; have NC := zz hCN; have I5 := zz (I4.out.below hb); have LB5 := zz (Xe LB4.out hb); have RL5 := zz (Kd.XA RL4.out hb); clear ho hb hg hat hCN I4 LB4 RL4) | ((with_reducible refine Zh (b := .append) (xs := #[.tmp 12, .tmp 15]) rfl ?_); at_builtin; refine Kd.Ve k41 (w0 := w) w.heap.size rfl (.tmp 12) (.tmp 15) 34 41 (.agg #[(.int .i64 0), (.int .i64 0), (.int .i64 0), (.int .i64 0), (.int .i64 0), (.int .i64 0), (.int .i64 0), (.int .i64 0)]) 64 rfl Try.underlying34 VN rfl (by decide) (by omega) v y [⟨b1, b2, b3, b4, b5, b6, b7, b8⟩] _ _ _ (fun _ => True) (fun _ => False) rfl rfl ?aO ?aR (fun _ _ h => h) (fun _ h => h.elim) ?aF ?aB ?aS ?aL ?_; (case aR => exact NC.out); (case aB => exact LB5.out); (case aF => exact zb135); (case aO => exact Kd.Ye RL5.out (Nat.le_of_lt (Nat.lt_of_le_of_lt I5.out.ge HGW.out))); (case aS => exact LB5.out.size); (case aL => have := QN.out; simp only [List.length_cons, List.length_nil]; omega); intro v22 w6 ho hb hg hat; have Q6 := zz (Kd.Td ho); have LB6 := zz hb; clear ho hb hg hat))
      refine bodyPost_ret (v := v22) (by simp [results, Try.results67, go_sem, *]) rfl ⟨_, rfl, Q6.out, LB6.out⟩
    · have RL4 := zz hL
      have hy2 := zz hys; clear hL hys
      go_wp2_with (first | ((with_reducible refine XO (N := 15) rfl ?_); refine Kd.Gp k41 (w0 := w4) _ 41 ?hg (N := 15) ?hd (xs := ([(⟨b1, b2, b3, b4, b5, b6, b7, b8⟩ : S41)] : List S41)) (inner := [.int .i64 b1, .int .i64 b2, .int .i64 b3, .int .i64 b4, .int .i64 b5, .int .i64 b6, .int .i64 b7, .int .i64 b8]) (ok := fun _ => True) (okp := fun _ => True) ?hr ?hp (fun _ hk => hk) trivial (Below.refl (w4).heap.size w4) (Nat.le_refl _) (by simp) ?_; (case hd => rfl); (case hg => rfl); (case hr => exact zb22); (case hp => exact zb134); intro v21 w5 ho hb hg hat; obtain ⟨AN, cN, eN, _, hCN⟩ := Kd.Mg ho; subst eN; obtain ⟨an, ean, _⟩ := hCN.2.2 (by simp); subst ean; have NC := zz hCN; have I5 := zz (I4.out.below hb); have LB5 := zz (Xe LB4.out hb); have RL5 := zz (Kd.XA RL4.out hb); clear ho hb hg hat hCN I4 LB4 RL4) | ((with_reducible refine Zh (b := .append) (xs := #[.tmp 12, .tmp 15]) rfl ?_); at_builtin; refine XaQ k41 (fun _ _ _ _ _ _ h => h) (w0 := w) w.heap.size rfl (.tmp 12) (.tmp 15) 34 41 (.agg #[(.int .i64 0), (.int .i64 0), (.int .i64 0), (.int .i64 0), (.int .i64 0), (.int .i64 0), (.int .i64 0), (.int .i64 0)]) 64 rfl Try.underlying34 VN rfl (by decide) (by omega) g2 c2 1 ys [⟨b1, b2, b3, b4, b5, b6, b7, b8⟩] an 1 _ (fun _ => True) rfl rfl ?aO ?aM ?aR ?aB ?aS ?aL ?_; (case aR => exact NC.out); (case aB => exact LB5.out); (case aM => exact hy2.out); (case aO => exact Kd.Ye RL5.out (Nat.le_of_lt (Nat.lt_of_le_of_lt I5.out.ge HGW.out))); (case aS => exact LB5.out.size); (case aL => have h1_ := QN.out; have h2_ := hy2.out; simp only [List.length_drop] at h1_; omega); intro v22 w6 ho hb hg; have Q6 := zz ho; have LB6 := zz hb; clear ho hb hg))
      refine bodyPost_ret (v := v22) (by simp [results, Try.results67, go_sem, *]) rfl ⟨_, rfl, Q6.out, LB6.out⟩
  rw [if_neg q0] at h; have q0b : (t == 0) = false := beq_eq_false_iff_ne.mpr q0; clear q0; simp only [Option.some.injEq] at h; subst h
  go_wp2
  refine bodyPost_ret (v := v) (by simp [results, Try.results67, go_sem, *]) rfl ⟨_, rfl, (RL3.out.lower (Nat.le_of_lt (Nat.lt_of_le_of_lt I3.out.ge HGW.out))).q, LB3.out⟩
def X6.T8 : Bool × List (List Nat × List Nat) := (true, [([], []), ([], []), ([], []), ([], []), ([3], [3]), ([2, 4], [2, 4]), ([1, 5], [1, 5]), ([6], [6]), ([0, 5, 0], [0]), ([7, 8, 0, 1, 2, 3, 4, 5, 6, 7, 8], [7])])
def X6.B8 : List Nat := [0, 0, 0, 0, 8, 28, 62, 126, 61, 511]
theorem X6.tab8 : JI .any (opsOf Try.f68 8) = X6.T8 := by kernel_rfl
theorem X6.XtO : Jn X6.T8.2 X6.B8 = true := by kernel_rfl
set_option maxHeartbeats 8000000 in
set_option maxRecDepth 100000 in
theorem X6.calls (k : Nat) (A0 : Option Addr) (c0 : Nat) (l0 : List Int) (r1 : List S41) (r2 : Int) (w : World) (hr0 : Kd.C (Kd.int .u8) w A0 l0.length l0) (hc0 : l0.length ≤ c0) (h : X6.f k l0 = some (r1, r2)) :
    Calls Try.prog 68 #[.slice A0 l0.length c0] w fun e w' => ∃ v0_ : Value, e = .returned (.tuple #[v0_, .int .i64 r2]) ∧ Kd.Q k41 41 w' w.heap.size (fun _ => True) v0_ r1 ∧ Below w.heap.size w w' := by
  have HR := zz hr0; have HC := zz hc0
  unfold X6.f at h
  replace h := Option.bind_eq_some_iff.mp h; obtain ⟨⟨s0, s1⟩, ho, h⟩ := h; replace h := Option.bind_eq_some_iff.mp h; obtain ⟨⟨y, p1⟩, hy, h⟩ := h; have A0_ := zz ho; have A1_ := zz hy; have H := zz h; clear hr0 hc0 ho hy h
  go_enter Try.func68, Try.ntmps68
  go_wp2_with fail
  refine (VU.calls A0 c0 l0 s0 s1 w w (Below.refl _ _) HR.out HC.out A0_.out).mono ?_; rintro e w1 ⟨g, rfl, hI1, hB1, _⟩; have I1 := zz hI1; have LB1 := zz hB1; have HGW := zz hI1.lt; clear hI1 hB1
  go_wp2_with fail
  refine (JQ.to k g s0 s1 y p1 w w1 I1.out LB1.out A1_.out).mono ?_; rintro e w2 ⟨v, rfl, hL, hI2, hB2, hK2⟩; have RL2 := zz hL; have I2 := zz hI2; have LB2 := zz hB2; have hsz := zz hK2.1; clear hL hI2 hB2 hK2 I1 LB1
  go_wp2
  go_loopg [5, 6] k (fun kq v5 v6 w' => ∃ (x6 : Int) (l : List S41) (sp : Int), v6 = .int .i64 x6 ∧ Aside0 (X6.l0 kq s0 sp l x6 = some (r1, r2)) ∧ Aside0 (kq ≤ k) ∧ Aside0 (LS w' w1.heap.size v5 l) ∧ Aside0 (X7 w w' g s0 sp) ∧ Aside0 (Below w.heap.size w w') ∧ Aside0 (w1.heap.size ≤ w'.heap.size))
  case atStart => exact ⟨0, y, p1, rfl, H, ⟨Nat.le_refl _⟩, RL2, I2, LB2, hsz⟩
  case round =>
    clear H RL2 I2 LB2 hsz A0_ A1_; obtain ⟨x6, l, sp, rfl, HA, HK1, RL0, I0, LB0, hsz⟩ := hrel
    obtain ⟨v, hv⟩ : ∃ v_, u5 = v_ := ⟨_, rfl⟩
    rw [hv] at RL0 ⊢
    cases gk with
    | zero => exact absurd HA.out (by simp [X6.l0])
    | succ k1 =>
      have h := HA.out; clear HA; simp only [X6.l0] at h
      by_cases q : x6 < 5
      rotate_left
      · rw [if_neg q] at h
        have qb : decide (x6 < 5) = false := decide_eq_false q; clear q; replace h := Option.bind_eq_some_iff.mp h; obtain ⟨⟨q9, p9⟩, hq, h⟩ := h; have A5_ := zz hq; simp only [Option.some.injEq, Prod.mk.injEq] at h; obtain ⟨rfl, rfl⟩ := h; clear hq
        go_wp2_with fail
        refine (Xb.calls k1 g s0 sp 5 q9 p9 w _ I0.out LB0.out A5_.out).mono ?_; rintro e w9 ⟨rfl, hI, hB, hK⟩; have I9 := zz hI; have LB9 := zz hB; have RL9 := zz (RL0.out.keep hK HGW.out); clear hI hB hK I0 LB0 RL0
        go_wp2
        refine bodyPost_ret (v := .tuple #[v, .int .i64 q9]) (by simp [results, Try.results68, go_sem, *]) rfl ⟨_, rfl, (RL9.out.lower (Nat.le_of_lt (Nat.lt_of_le_of_lt I9.out.ge HGW.out))).q, LB9.out⟩
      rw [if_pos q] at h; have qb : decide (x6 < 5) = true := decide_eq_true q; clear q; replace h := Option.bind_eq_some_iff.mp h; obtain ⟨⟨t, p2⟩, ht, h⟩ := h; have A2_ := zz ht; have H := zz h; clear ht h
      go_wp2_with fail
      refine (Xb.calls k1 g s0 sp 8 t p2 w _ I0.out LB0.out A2_.out).mono ?_; rintro e w3 ⟨rfl, hI, hB, hK⟩; have I1 := zz hI; have LB1 := zz hB; have hsz1 := zz (Nat.le_trans hsz.out hK.1); have RL1 := zz (RL0.out.keep hK HGW.out); clear hI hB hK hsz I0 LB0 RL0; have h := H.out; clear H
      by_cases q : t > 0
      rotate_left
      · rw [if_neg q] at h
        have qtb : decide (0 < t) = false := decide_eq_false q; clear q; replace h := Option.bind_eq_some_iff.mp h; obtain ⟨⟨q9, p9⟩, hq, h⟩ := h; have A5_ := zz hq; simp only [Option.some.injEq, Prod.mk.injEq] at h; obtain ⟨rfl, rfl⟩ := h; clear hq
        go_wp2_with fail
        refine (Xb.calls k1 g s0 p2 5 q9 p9 w _ I1.out LB1.out A5_.out).mono ?_; rintro e w9 ⟨rfl, hI, hB, hK⟩; have I9 := zz hI; have LB9 := zz hB; have RL9 := zz (RL1.out.keep hK HGW.out); clear hI hB hK I1 LB1 RL1
        go_wp2
        refine bodyPost_ret (v := .tuple #[v, .int .i64 q9]) (by simp [results, Try.results68, go_sem, *]) rfl ⟨_, rfl, (RL9.out.lower (Nat.le_of_lt (Nat.lt_of_le_of_lt I9.out.ge HGW.out))).q, LB9.out⟩
      rw [if_pos q] at h; have qtb : decide (0 < t) = true := decide_eq_true q; clear q; replace h := Option.bind_eq_some_iff.mp h; obtain ⟨o, ho, h⟩ := h; have A3_ := zz ho; have H := zz h; clear ho h; obtain ⟨⟨AL, cL, eL, hcL, hCL⟩⟩ : Aside0 _ := zz RL1.out.reads; subst eL; have HCL := zz hCL; have HcL := zz hcL; clear hCL hcL
      go_wp2_with fail
      refine (XT.calls k1 AL cL l o _ HCL.out HcL.out A3_.out).mono ?_; rintro e w4 ⟨vo, rfl, hRo, hb⟩; obtain ⟨Ao, co, eo⟩ := Kd.Xx hRo; subst eo; have RO := zz (Kd.Z5 hRo); have RL4 := zz (RL1.out.below hb); have I4 := zz (I1.out.below hb); have LB4 := zz (Xe LB1.out hb); have hsz4 := zz (Nat.le_trans hsz1.out hb.size); clear hRo hb RL1 I1 LB1 HCL HcL; have h := H.out; clear H
      by_cases q : (o.length : Int) > 0
      · rw [if_pos q] at h
        have qob : decide (0 < (o.length : Int)) = true := decide_eq_true q; have qoc := eq_true (show 0 < o.length by omega); clear q; replace h := Option.bind_eq_some_iff.mp h; obtain ⟨⟨a_, p3⟩, ha, h⟩ := h; have A4_ := zz ha; clear ha
        by_cases q0 : 0 ≤ a_
        rotate_left
        · rw [if_neg q0] at h
          exact absurd h (by simp)
        rw [if_pos q0] at h
        by_cases q1 : a_ < (o.length : Int)
        rotate_left
        · rw [if_neg q1] at h
          exact absurd h (by simp)
        rw [if_pos q1] at h; simp only [Option.some.injEq, Prod.mk.injEq] at h; obtain ⟨rfl, rfl⟩ := h; have p0 := eq_true q0; have p1_ := eq_true q1; obtain ⟨A9, e9, gv⟩ := Kd.Jl (Kd.Xk (Kd.Y3 RO.out)).2.2 a_ q0 q1; subst e9; have hA9 := zz (Kd.ZH RO.out A9.block rfl)
        have hA9d : Aside0 (A9.block < w4.drew.heap.size) := ⟨Kd.Fe RO.out A9.block rfl⟩
        clear q0 q1
        go_wp2_with fail
        have I5 := zz I4.out.drew; have LB5 := zz (Yq LB4.out); have RL5 := zz (RL4.out.below (XR (Below.refl _ _))); clear I4 LB4 RL4 RO; refine ZY (n := 10) (S := fun w' => w'.cell? (A9.add (a_ : Int).toNat) = some (.int .i64 (rd o a_))) (ds := []) Xow zb14 rfl rfl gv (fun hHeld => ?_); refine Ja X6.tab8 X6.XtO (fun HT_ HW_ => ?_); generalize w4.drew = w5 at I5 LB5 RL5 gv hA9d hHeld ⊢; refine pu 0 26 Xox HT_ ?_; refine pu 1 27 Xoy HT_ ?_; refine pu 2 28 Xoz HT_ ?_; refine pu 3 29 Xo0 HT_ ?_; refine pu 4 30 Xo1 HT_ ?_; refine Vs (i := 5) (N := some 31) Xo2 rfl rfl (Zf HT_.out zb14) (by decide) (fun K hK => ?_); refine Jo Try.func77 zb14 rfl #[.pointer (some ⟨g, 0, none⟩), .int .i64 (o.length : Int)] (by rfl) rfl rfl zb0 ?_
        with_reducible refine (Xb.calls k1 g s0 p2 (o.length : Int) a_ p3 w _ I5.out LB5.out A4_.out).mono ?_
        rintro e w6 ⟨rfl, hI, hB, hK⟩; refine ⟨_, rfl, ?_⟩; have I6 := zz hI; have LB6 := zz hB; have RL6 := zz (RL5.out.keep hK HGW.out); have gv6 : w6.cell? (A9.add (a_ : Int).toNat) = some (.int .i64 (rd o a_)) := (World.cell?_of_block (a := A9.add (a_ : Int).toNat) (by rw [add_block]; exact hK.2 A9.block hA9d.out (by have h1_ := hA9.out; have h2_ := HGW.out; have h3_ := hsz1.out; omega) (by simp))).trans gv; clear hI hB hK I5 LB5 RL5 gv; refine hK.out _ _ gv6 (fun hHeld => ?_); clear hK K; refine YK (a' := ?_) ?_ ?_; rotate_left
        · show Act.put _ (some 31) _ = _
          simp only [Act.put, List.setIfInBounds_toArray, List.set_cons_zero, List.set_cons_succ, XB, XK]
          rfl
        refine pu 6 32 Xo3 HT_ ?_; refine tk 7 33 Xo4 HT_ HW_ hHeld ?_; refine pu 8 2 Xo5 HT_ ?_; refine pu 9 3 Xk9 HT_ ?_; refine J7 (JC HT_.out zb14) ?_
        go_wp2
        refine bodyPost_ret (v := .tuple #[.slice AL l.length cL, .int .i64 (rd o a_)]) (by simp [results, Try.results68, go_sem, *]) rfl ⟨_, rfl, (RL6.out.lower (Nat.le_of_lt (Nat.lt_of_le_of_lt I6.out.ge HGW.out))).q, LB6.out⟩
      · rw [if_neg q] at h
        have qob : decide (0 < (o.length : Int)) = false := decide_eq_false q; have qoc := eq_false (show ¬ 0 < o.length by omega); clear q; replace h := Option.bind_eq_some_iff.mp h; obtain ⟨⟨y, p3⟩, hy, h⟩ := h; have A4_ := zz hy; have H := zz h; clear hy h
        go_wp2_with fail
        refine (JQ.to k1 g s0 p2 y p3 w w4 I4.out LB4.out A4_.out).mono ?_; rintro e w6 ⟨v6, rfl, hL, hI2, hB2, hK2⟩; have RL6 := zz (hL.lower hsz4.out); have I6 := zz hI2; have LB6 := zz hB2; have hsz6 := zz (Nat.le_trans hsz4.out hK2.1); clear hL hI2 hB2 hK2 RL4 I4 LB4
        go_wp2
        go_roundg k1
        case measure => have := HK1.out; omega
        case rel => exact ⟨_, y, p3, rfl, ⟨(XB (x6 + 1)).symm ▸ H.out⟩, ⟨zb54⟩, RL6, I6, LB6, hsz6⟩
end Go.Proofs.Ytcefiblpnegepaa.Pr
