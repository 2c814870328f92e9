import Derived.Test.YtcefiblpnegepaaQBByq
import Derived.Test.YtcefiblpnegepaaQBSq
import Derived.Test.YtcefiblpnegepaaQBSx
import Derived.Test.YtcefiblpnegepaaQBSh
import Derived.Test.YtcefiblpnegepaaQBPrLO2
import Derived.Test.YtcefiblpnegepaaQBL71L
namespace Go.Proofs.Ytcefiblpnegepaa.Pr
open Go.RowKit Go.PW Go.PL Go.PM
attribute [local go_sem] Y3 Y4 YV YW Yk Yl Y5 Y6
set_option linter.unusedVariables false
set_option linter.unusedSimpArgs false
abbrev XnG : Array Bool := #[false, false, false, false, false, false, false, false, false, false]
abbrev XnH : Array Bool := #[true, false, false, false, false, false, false, false, false, false]
abbrev XnI : Array Bool := #[true, true, false, false, false, false, false, false, false, false]
abbrev XnJ : Array Bool := #[true, true, true, false, false, false, false, false, false, false]
abbrev XnK : Array Bool := #[true, true, true, true, false, false, false, false, false, false]
abbrev XnL : Array Bool := #[true, true, true, true, true, false, false, false, false, false]
abbrev XnM : Array Bool := #[true, true, true, true, true, true, false, false, false, false]
abbrev XnN : Array Bool := #[true, true, true, true, true, true, true, false, false, false]
abbrev XnO : Array Bool := #[true, true, true, true, true, true, true, true, false, false]
abbrev XnP : Array Bool := #[true, true, true, true, true, true, true, true, true, false]
abbrev XjJ : Array Bool := #[true, true, true, true, true, true, true, true, true, true]
theorem LS.q {w : World} {base : Nat} {v : Value} {l : List S41} (h : LS w base v l) : Kd.Q k41 41 w base (fun _ => True) v l := by
  rcases h with h | ⟨g', c, ys, h, h1, rfl, rfl⟩
  · exact Kd.Xbp h
  · have hD := Kd.XnQ (k := 1) (Kd.Xbp h) (by omega)
    have hc := (Kd.Xi h).2.1; rw [if_neg (by omega)] at hD; simp only [Option.map_some, Addr.add_lit] at hD; rw [show 0 + 1 * k41.sz = 8 from rfl] at hD; exact hD
def XH.l0 : Nat → List Int → Int → List S41 → Int → Option (List S41 × Int)
  | 0, _, _, _, _ => none
  | k + 1, s0, sp, l, i => if i < 5 then ((Xb.f k s0 sp 8).bind fun t => if t.1 > 0 then ((YB.f k l).bind fun o => if (o.length : Int) > 0 then ((Xb.f k s0 t.2 (o.length : Int)).bind fun a => if 0 ≤ a.1 then (if a.1 < (o.length : Int) then some (l, rd o a.1) else none) else none) else ((VA.f k s0 t.2).bind fun y => XH.l0 k s0 y.2 y.1 (wrap64 (i + 1)))) else ((Xb.f k s0 t.2 5).bind fun q => some (l, q.1))) else ((Xb.f k s0 sp 5).bind fun q => some (l, q.1))
def XH.f (k : Nat) (l0 : List Int) : Option (List S41 × Int) := (Ga.f l0).bind fun o => (VA.f k o.1 o.2).bind fun y => XH.l0 k o.1 y.2 y.1 0
def XH.T8 : Bool × List (List Nat × List Nat) := (true, [([], []), ([], []), ([], []), ([], []), ([3], [3]), ([2, 4], [2, 4]), ([1, 5], [1, 5]), ([6], [6]), ([0, 5, 0], [0]), ([7, 8, 0, 1, 2, 3, 4, 5, 6, 7, 8], [7])])
def XH.B8 : List Nat := [0, 0, 0, 0, 8, 28, 62, 126, 61, 511]
theorem XH.tab8 : JG .any (opsOf Try.f68 8) = XH.T8 := by kernel_rfl
theorem XH.Xtt : Jh XH.T8.2 XH.B8 = true := by kernel_rfl
set_option maxHeartbeats 8000000 in
set_option maxRecDepth 100000 in
theorem XH.calls (k : Nat) (A0 : Option Addr) (c0 : Nat) (l0 : List Int) (r1 : List S41) (r2 : Int) (w : World) (hr0 : Kd.C (Kd.int .u8) w A0 l0.length l0) (hc0 : l0.length ≤ c0) (h : XH.f k l0 = some (r1, r2)) :
    Calls Try.prog 68 #[.slice A0 l0.length c0] w fun e w' => ∃ v0_ : Value, e = .returned (.tuple #[v0_, .int .i64 r2]) ∧ Kd.Q k41 41 w' w.heap.size (fun _ => True) v0_ r1 ∧ Below w.heap.size w w' := by
  have HR := zz hr0; have HC := zz hc0
  unfold XH.f at h
  replace h := Option.bind_eq_some_iff.mp h; obtain ⟨⟨s0, s1⟩, ho, h⟩ := h; replace h := Option.bind_eq_some_iff.mp h; obtain ⟨⟨y, p1⟩, hy, h⟩ := h; have A0_ := zz ho; have A1_ := zz hy; have H := zz h; clear hr0 hc0 ho hy h
  go_enter Try.func68, Try.ntmps68
  go_wp2_with fail
  refine (Ga.calls A0 c0 l0 s0 s1 w w (Below.refl _ _) HR.out HC.out A0_.out).mono ?_; rintro e w1 ⟨g, rfl, hI1, hB1, _⟩; have I1 := zz hI1; have LB1 := zz hB1; have HGW := zz hI1.lt; clear hI1 hB1
  go_wp2_with fail
  refine (VA.to k g s0 s1 y p1 w w1 I1.out LB1.out A1_.out).mono ?_; rintro e w2 ⟨v, rfl, hL, hI2, hB2, hK2⟩; have RL2 := zz hL; have I2 := zz hI2; have LB2 := zz hB2; have hsz := zz hK2.1; clear hL hI2 hB2 hK2 I1 LB1
  go_wp2
  go_loopg [5, 6] k (fun kq v5 v6 w' => ∃ (x6 : Int) (l : List S41) (sp : Int), v6 = .int .i64 x6 ∧ Aside0 (XH.l0 kq s0 sp l x6 = some (r1, r2)) ∧ Aside0 (kq ≤ k) ∧ Aside0 (LS w' w1.heap.size v5 l) ∧ Aside0 (XA w w' g s0 sp) ∧ Aside0 (Below w.heap.size w w') ∧ Aside0 (w1.heap.size ≤ w'.heap.size))
  case atStart => exact ⟨0, y, p1, rfl, H, ⟨Nat.le_refl _⟩, RL2, I2, LB2, hsz⟩
  case round =>
    clear H RL2 I2 LB2 hsz A0_ A1_; obtain ⟨x6, l, sp, rfl, HA, HK1, RL0, I0, LB0, hsz⟩ := hrel
    obtain ⟨v, hv⟩ : ∃ v_, u5 = v_ := ⟨_, rfl⟩
    rw [hv] at RL0 ⊢
    cases gk with
    | zero => exact absurd HA.out (by simp [XH.l0])
    | succ k1 =>
      have h := HA.out; clear HA; simp only [XH.l0] at h
      by_cases q : x6 < 5
      rotate_left
      · rw [if_neg q] at h
        have qb : decide (x6 < 5) = false := decide_eq_false q; clear q; replace h := Option.bind_eq_some_iff.mp h; obtain ⟨⟨q9, p9⟩, hq, h⟩ := h; have A5_ := zz hq; simp only [Option.some.injEq, Prod.mk.injEq] at h; obtain ⟨rfl, rfl⟩ := h; clear hq
        go_wp2_with fail
        refine (Xb.calls k1 g s0 sp 5 q9 p9 w _ I0.out LB0.out A5_.out).mono ?_; rintro e w9 ⟨rfl, hI, hB, hK⟩; have I9 := zz hI; have LB9 := zz hB; have RL9 := zz (RL0.out.keep hK HGW.out); clear hI hB hK I0 LB0 RL0
        go_wp2
        refine bodyPost_ret (v := .tuple #[v, .int .i64 q9]) (by simp [results, Try.results68, go_sem, *]) rfl ⟨_, rfl, (RL9.out.lower (Nat.le_of_lt (Nat.lt_of_le_of_lt I9.out.ge HGW.out))).q, LB9.out⟩
      rw [if_pos q] at h; have qb : decide (x6 < 5) = true := decide_eq_true q; clear q; replace h := Option.bind_eq_some_iff.mp h; obtain ⟨⟨t, p2⟩, ht, h⟩ := h; have A2_ := zz ht; have H := zz h; clear ht h
      go_wp2_with fail
      refine (Xb.calls k1 g s0 sp 8 t p2 w _ I0.out LB0.out A2_.out).mono ?_; rintro e w3 ⟨rfl, hI, hB, hK⟩; have I1 := zz hI; have LB1 := zz hB; have hsz1 := zz (Nat.le_trans hsz.out hK.1); have RL1 := zz (RL0.out.keep hK HGW.out); clear hI hB hK hsz I0 LB0 RL0; have h := H.out; clear H
      by_cases q : t > 0
      rotate_left
      · rw [if_neg q] at h
        have qtb : decide (0 < t) = false := decide_eq_false q; clear q; replace h := Option.bind_eq_some_iff.mp h; obtain ⟨⟨q9, p9⟩, hq, h⟩ := h; have A5_ := zz hq; simp only [Option.some.injEq, Prod.mk.injEq] at h; obtain ⟨rfl, rfl⟩ := h; clear hq
        go_wp2_with fail
        refine (Xb.calls k1 g s0 p2 5 q9 p9 w _ I1.out LB1.out A5_.out).mono ?_; rintro e w9 ⟨rfl, hI, hB, hK⟩; have I9 := zz hI; have LB9 := zz hB; have RL9 := zz (RL1.out.keep hK HGW.out); clear hI hB hK I1 LB1 RL1
        go_wp2
        refine bodyPost_ret (v := .tuple #[v, .int .i64 q9]) (by simp [results, Try.results68, go_sem, *]) rfl ⟨_, rfl, (RL9.out.lower (Nat.le_of_lt (Nat.lt_of_le_of_lt I9.out.ge HGW.out))).q, LB9.out⟩
      rw [if_pos q] at h; have qtb : decide (0 < t) = true := decide_eq_true q; clear q; replace h := Option.bind_eq_some_iff.mp h; obtain ⟨o, ho, h⟩ := h; have A3_ := zz ho; have H := zz h; clear ho h; obtain ⟨⟨AL, cL, eL, hcL, hCL⟩⟩ : Aside0 _ := zz RL1.out.reads; subst eL; have HCL := zz hCL; have HcL := zz hcL; clear hCL hcL
      go_wp2_with fail
      refine (YB.calls k1 AL cL l o _ HCL.out HcL.out A3_.out).mono ?_; rintro e w4 ⟨vo, rfl, hRo, hb⟩; obtain ⟨Ao, co, eo⟩ := Kd.Xx hRo; subst eo; have RO := zz (Kd.Zv hRo); have RL4 := zz (RL1.out.below hb); have I4 := zz (I1.out.below hb); have LB4 := zz (Xe LB1.out hb); have hsz4 := zz (Nat.le_trans hsz1.out hb.size); clear hRo hb RL1 I1 LB1 HCL HcL; have h := H.out; clear H
      by_cases q : (o.length : Int) > 0
      · rw [if_pos q] at h
        have qob : decide (0 < (o.length : Int)) = true := decide_eq_true q; have qoc := eq_true (show 0 < o.length by omega); clear q; replace h := Option.bind_eq_some_iff.mp h; obtain ⟨⟨a_, p3⟩, ha, h⟩ := h; have A4_ := zz ha; clear ha
        by_cases q0 : 0 ≤ a_
        rotate_left
        · rw [if_neg q0] at h
          exact absurd h (by simp)
        rw [if_pos q0] at h
        by_cases q1 : a_ < (o.length : Int)
        rotate_left
        · rw [if_neg q1] at h
          exact absurd h (by simp)
        rw [if_pos q1] at h; simp only [Option.some.injEq, Prod.mk.injEq] at h; obtain ⟨rfl, rfl⟩ := h; have p0 := eq_true q0; have p1_ := eq_true q1; obtain ⟨A9, e9, gv⟩ := Kd.Vv (Kd.Xi (Kd.XR RO.out)).2.2 a_ q0 q1; subst e9; have hA9 := zz (Kd.YR RO.out A9.block rfl)
        have hA9d : Aside0 (A9.block < w4.drew.heap.size) := ⟨Kd.J2 RO.out A9.block rfl⟩
        clear q0 q1
        go_wp2_with fail
        have I5 := zz I4.out.drew; have LB5 := zz (Yt LB4.out); have RL5 := zz (RL4.out.below (XX (Below.refl _ _))); clear I4 LB4 RL4 RO; refine ZR (n := 10) (S := fun w' => w'.cell? (A9.add (a_ : Int).toNat) = some (.int .i64 (rd o a_))) (ds := []) XnG zb13 rfl rfl gv (fun hHeld => ?_); refine ZV XH.tab8 XH.Xtt (fun HT_ HW_ => ?_); generalize w4.drew = w5 at I5 LB5 RL5 gv hA9d hHeld ⊢; refine pu 0 26 XnH HT_ ?_; refine pu 1 27 XnI HT_ ?_; refine pu 2 28 XnJ HT_ ?_; refine pu 3 29 XnK HT_ ?_; refine pu 4 30 XnL HT_ ?_; refine Vr (i := 5) (N := some 31) XnM rfl rfl (Zf HT_.out zb13) (by decide) (fun K hK => ?_); refine Ji Try.func77 zb13 rfl #[.pointer (some ⟨g, 0, none⟩), .int .i64 (o.length : Int)] (by rfl) rfl rfl zb0 ?_
        with_reducible refine (Xb.calls k1 g s0 p2 (o.length : Int) a_ p3 w _ I5.out LB5.out A4_.out).mono ?_
        rintro e w6 ⟨rfl, hI, hB, hK⟩; refine ⟨_, rfl, ?_⟩; have I6 := zz hI; have LB6 := zz hB; have RL6 := zz (RL5.out.keep hK HGW.out); have gv6 : w6.cell? (A9.add (a_ : Int).toNat) = some (.int .i64 (rd o a_)) := (World.cell?_of_block (a := A9.add (a_ : Int).toNat) (by rw [add_block]; exact hK.2 A9.block hA9d.out (by have h1_ := hA9.out; have h2_ := HGW.out; have h3_ := hsz1.out; omega) (by simp))).trans gv; clear hI hB hK I5 LB5 RL5 gv; refine hK.out _ _ gv6 (fun hHeld => ?_); clear hK K; refine YP (a' := ?_) ?_ ?_; rotate_left
        · show Act.put _ (some 31) _ = _
          simp only [Act.put, List.setIfInBounds_toArray, List.set_cons_zero, List.set_cons_succ, XG, XW]
          rfl
        refine pu 6 32 XnN HT_ ?_; refine tk 7 33 XnO HT_ HW_ hHeld ?_; refine pu 8 2 XnP HT_ ?_; refine pu 9 3 XjJ HT_ ?_; refine J4 (J9 HT_.out zb13) ?_
        go_wp2
        refine bodyPost_ret (v := .tuple #[.slice AL l.length cL, .int .i64 (rd o a_)]) (by simp [results, Try.results68, go_sem, *]) rfl ⟨_, rfl, (RL6.out.lower (Nat.le_of_lt (Nat.lt_of_le_of_lt I6.out.ge HGW.out))).q, LB6.out⟩
      · rw [if_neg q] at h
        have qob : decide (0 < (o.length : Int)) = false := decide_eq_false q; have qoc := eq_false (show ¬ 0 < o.length by omega); clear q; replace h := Option.bind_eq_some_iff.mp h; obtain ⟨⟨y, p3⟩, hy, h⟩ := h; have A4_ := zz hy; have H := zz h; clear hy h
        go_wp2_with fail
        refine (VA.to k1 g s0 p2 y p3 w w4 I4.out LB4.out A4_.out).mono ?_; rintro e w6 ⟨v6, rfl, hL, hI2, hB2, hK2⟩; have RL6 := zz (hL.lower hsz4.out); have I6 := zz hI2; have LB6 := zz hB2; have hsz6 := zz (Nat.le_trans hsz4.out hK2.1); clear hL hI2 hB2 hK2 RL4 I4 LB4
        go_wp2
        go_roundg k1
        case measure => have := HK1.out; omega
        case rel => exact ⟨_, y, p3, rfl, ⟨(XG (x6 + 1)).symm ▸ H.out⟩, ⟨zb61⟩, RL6, I6, LB6, hsz6⟩
end Go.Proofs.Ytcefiblpnegepaa.Pr
namespace Go.Proofs.Ytcefiblpnegepaa.Pr
open Go.RowKit Go.PW Go.PL Go.PM
attribute [local go_sem] Y3 Y4 YV YW Yk Yl Y5 Y6
set_option linter.unusedVariables false
set_option linter.unusedSimpArgs false
def Z5.f (k : Nat) (l0 : List Int) : Option ((List (S41)) × Int) := (XH.f k l0).bind fun Xas => (some (Xas.1, Xas.2))
set_option maxHeartbeats 8000000 in
set_option maxRecDepth 100000 in
theorem Z5.calls (k : Nat) (A0 : Option Addr) (c0 : Nat) (l0 : List Int) (r1 : List (S41)) (r2 : Int) (w : World) (hr0 : Kd.C (Kd.int .u8) w A0 l0.length l0) (hc0 : l0.length ≤ c0) (h : Z5.f k l0 = some (r1, r2)) :
    Calls Try.prog 69 #[.slice A0 l0.length c0] w fun e w' => ∃ v0_ : Value, e = .returned (.tuple #[v0_, .int .i64 r2]) ∧ Kd.Q k41 41 w' w.heap.size (fun _ => True) v0_ r1 ∧ Below w.heap.size w w' := by
  have HR0 := zz hr0; have HC0 := zz hc0; clear hr0 hc0; have HB := zz (Below.refl w.heap.size w); have H : ((XH.f k l0).bind fun Xas => (some (Xas.1, Xas.2))) = some (r1, r2) := h; clear h; replace H := Option.bind_eq_some_iff.mp H; obtain ⟨⟨t284, t285⟩, A20, H⟩ := H; replace H : (some (t284, t285)) = some (r1, r2) := H; have A2 := zz A20; clear A20; simp only [Option.some.injEq, Prod.mk.injEq] at H; obtain ⟨rfl, rfl⟩ := H
  go_enter Try.func69, Try.ntmps69
  go_wp2_with (first | ((with_reducible refine Xg (f := 68) rfl ?_); refine X6 (some 5) rfl rfl Try.func68 zb13 rfl #[.slice A0 l0.length c0] rfl zb0 ?_; (with_reducible refine (XH.calls k _ _ l0 t284 t285 _ ?side1 ?side2 A2.out).mono ?_); (case side1 => exact zb23); (case side2 => exact HC0.out); rintro e w3 ⟨v286, rfl, ho0, hb⟩; refine ⟨_, rfl, ?_⟩; have n0_ := zz (Kd.KX ho0 (Xq zb5)); have n1_ := zz (Xe zb5 hb); clear HB; have Xtn := n0_; have HB := n1_; clear n0_ n1_; (try clear hb); (try clear hb2); (try clear hk); (try clear hi); (try clear ho0)))
  go_ret2
  exact ⟨_, zb11, by (with_reducible repeat (first | apply Kd.MZ | apply Kd.Na | apply Kd.Wj)); exact Xtn.out, zb5⟩
def JR.f (k : Nat) (l0 : List Int) : Option ((List (S41)) × Int) := (XH.f k l0).bind fun Xat => (some (Xat.1, Xat.2))
set_option maxHeartbeats 8000000 in
set_option maxRecDepth 100000 in
theorem JR.calls (k : Nat) (A0 : Option Addr) (c0 : Nat) (l0 : List Int) (r1 : List (S41)) (r2 : Int) (w : World) (hr0 : Kd.C (Kd.int .u8) w A0 l0.length l0) (hc0 : l0.length ≤ c0) (h : JR.f k l0 = some (r1, r2)) :
    Calls Try.prog 74 #[.slice A0 l0.length c0] w fun e w' => ∃ v0_ : Value, e = .returned (.tuple #[v0_, .int .i64 r2]) ∧ Kd.Q k41 41 w' w.heap.size (fun _ => True) v0_ r1 ∧ Below w.heap.size w w' := by
  have HR0 := zz hr0; have HC0 := zz hc0; clear hr0 hc0; have HB := zz (Below.refl w.heap.size w); have H : ((XH.f k l0).bind fun Xat => (some (Xat.1, Xat.2))) = some (r1, r2) := h; clear h; replace H := Option.bind_eq_some_iff.mp H; obtain ⟨⟨SX, Ri⟩, A20, H⟩ := H; replace H : (some (SX, Ri)) = some (r1, r2) := H; have A2 := zz A20; clear A20; simp only [Option.some.injEq, Prod.mk.injEq] at H; obtain ⟨rfl, rfl⟩ := H
  go_enter Try.func74, Try.ntmps74
  go_wp2_with (first | ((with_reducible refine Xg (f := 68) rfl ?_); refine X6 (some 5) rfl rfl Try.func68 zb13 rfl #[.slice A0 l0.length c0] rfl zb0 ?_; (with_reducible refine (XH.calls k _ _ l0 SX Ri _ ?side1 ?side2 A2.out).mono ?_); (case side1 => exact zb23); (case side2 => exact HC0.out); rintro e w3 ⟨v384, rfl, ho0, hb⟩; refine ⟨_, rfl, ?_⟩; have n0_ := zz (Kd.KX ho0 (Xq zb5)); have n1_ := zz (Xe zb5 hb); clear HB; have Xto := n0_; have HB := n1_; clear n0_ n1_; (try clear hb); (try clear hb2); (try clear hk); (try clear hi); (try clear ho0)))
  go_ret2
  exact ⟨_, zb11, by (with_reducible repeat (first | apply Kd.MZ | apply Kd.Na | apply Kd.Wj)); exact Xto.out, zb5⟩
end Go.Proofs.Ytcefiblpnegepaa.Pr
