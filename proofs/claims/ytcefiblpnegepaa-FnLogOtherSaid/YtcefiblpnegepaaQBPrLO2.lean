import Derived.Test.YtcefiblpnegepaaQBByq
import Derived.Test.YtcefiblpnegepaaQBWLogB
import Derived.Test.YtcefiblpnegepaaQBSx
import Derived.Test.YtcefiblpnegepaaQBLogOk
import Derived.Test.YtcefiblpnegepaaQBLast
import Derived.Test.YtcefiblpnegepaaQBPrLogB
namespace Go.Proofs.Ytcefiblpnegepaa.T
open Go.RowKit Go.PW Go.Proofs.Ytcefiblpnegepaa.Pr
set_option linter.unusedSimpArgs false
set_option linter.unusedVariables false
theorem Xaz (l : List S41) (t : Int) (hl : l.length ≤ 9223372036854775807) : ∀ (i k : Nat), i ≤ l.length → i < k → Xu.l0 k l t ((i : Int) - 1) = some (lastB (l.take i) t)
  | 0, k + 1, _, _ => by
    rw [Xu.l0, if_neg (by omega)]
    rfl
  | i + 1, k + 1, hi, hk => by
    have e : ((i + 1 : Nat) : Int) - 1 = (i : Int) := by omega
    rw [e, Xu.l0, if_pos (by omega), if_pos (by omega), if_pos (by omega), Yb l i (by omega)]
    by_cases h1 : ((Xa l i).f1) = t
    · rw [if_pos h1, if_pos h1]
      by_cases h4 : ((Xa l i).f0) = 4
      · simp [h4]
      · by_cases h5 : ((Xa l i).f0) = 5
        · simp [h5]
        · rw [if_neg h4, if_neg h5, if_neg (by omega), T.wrap_small (by omega) (by omega)]
    · rw [if_neg h1, if_neg h1, T.wrap_small (by omega) (by omega)]
      exact Xaz l t hl i k (by omega) (by omega)
theorem NJ (l : List S41) (t : Int) (hl : l.length ≤ 9223372036854775807) (k : Nat) (hk : l.length < k) : Xu.f k l t = some (lastB l t) := by
  unfold Xu.f
  rw [T.wrap_small (by omega) (by omega), Xaz l t hl l.length k (Nat.le_refl _) hk, List.take_length]
theorem BV (n i : Nat) (h : i < n) : (List.range n).drop i = i :: (List.range n).drop (i + 1) := by
  rw [List.drop_eq_getElem_cons (by simpa using h)]
  simp
theorem KQ (l : List S41) (hl : l.length ≤ 9223372036854775807) : ∀ (d i k : Nat), i + d = l.length → 2 * d + l.length + 4 < k → Xk.l0 k l i = some (decide (l.length ≤ 150) && ((List.range l.length).drop i).all (ZT l))
  | 0, i, k + 1, hi, _ => by
    rw [Xk.l0, if_neg (by omega), List.drop_of_length_le zb151]
    have : decide ((l.length : Int) ≤ 150) = decide (l.length ≤ 150) := by
      rw [decide_eq_decide]; omega
    simp [this]
  | d + 1, i, k + 2, hi, hk => by
    have hlt : i < l.length := by omega
    rw [BV _ _ hlt, List.all_cons]; have ih := KQ l hl d (i + 1) k (by omega) (by omega)
    have hw : wrap64 ((i : Int) + 1) = ((i + 1 : Nat) : Int) := by rw [T.wrap_small (by omega) (by omega)]; omega
    have hjt : Xk.j1 (k + 1) l i true = some false := by rw [Xk.j1]; rfl
    obtain ⟨k1, rfl⟩ : ∃ j, k = j + 2 := ⟨k - 2, by omega⟩
    rw [Xk.l0, if_pos (by omega), if_pos (by omega), Sl _ _ _ _ _ _ _ _ (k1 + 1)]; simp only [Option.bind_some]
    by_cases hok : Vl ((Xa l i).f0) ((Xa l i).f1) ((Xa l i).f2) ((Xa l i).f3) ((Xa l i).f4) ((Xa l i).f5) ((Xa l i).f6) ((Xa l i).f7) = true
    · have hnx := Lx hok
      rw [if_pos hok, if_pos (by omega), NJ _ _ zb151 _ zb151]; simp only [Option.bind_some, Int.toNat_natCast]
      by_cases hpv : ((Xa l i).f6) = lastB (l.take i) ((Xa l i).f1)
      · rw [if_pos hpv]
        by_cases hni : ((Xa l i).f7) > (i : Int)
        · have e : ZT l i = false := by unfold ZT; simp; omega
          rw [decide_eq_true hni, hjt, e]
          simp
        · rw [decide_eq_false hni, Xk.j1]
          simp only [Bool.false_eq_true, if_false]; rw [if_pos (by omega), if_pos (by omega)]
          by_cases hn0 : ((Xa l i).f7) > 0
          · rw [if_pos hn0, T.wrap_small (by omega) (by omega), if_pos (by omega), if_pos (by omega)]
            by_cases hsm : (Xa l (((Xa l i).f7) - 1)).f1 = ((Xa l i).f1)
            · have e : ZT l i = true := by unfold ZT; rw [hok]; simp [← hpv, hsm]; omega
              rw [if_pos hsm, hw, ih, e]
              simp
            · have e : ZT l i = false := by unfold ZT; simp [hsm]; omega
              rw [if_neg hsm, e]
              simp
          · have e : ZT l i = true := by unfold ZT; rw [hok]; simp [← hpv]; omega
            rw [if_neg hn0, hw, ih, e]
            simp
      · have e : ZT l i = false := by unfold ZT; simp [hpv]
        rw [if_neg hpv, hjt, e]
        simp
    · have e : ZT l i = false := by unfold ZT; simp [hok]
      rw [if_neg hok, hjt, e]
      simp
theorem Fq (l : List S41) (hl : l.length ≤ 9223372036854775807) (k : Nat) (hk : 3 * l.length + 4 < k) : Xk.f k l = some (Yz l) := by
  unfold Xk.f Yz
  have h := KQ l hl l.length 0 k (by omega) (by omega)
  simpa using h
theorem KS (l : List S41) (hl : l.length ≤ 9223372036854775807) : ∀ (d i k : Nat), i + d = l.length → 2 * d + l.length + 4 < k → Xw.l0 k l i = some (decide (l.length ≤ 150) && ((List.range l.length).drop i).all (ZT l))
  | 0, i, k + 1, hi, _ => by
    rw [Xw.l0, if_neg (by omega), List.drop_of_length_le zb151]
    have : decide ((l.length : Int) ≤ 150) = decide (l.length ≤ 150) := by
      rw [decide_eq_decide]; omega
    simp [this]
  | d + 1, i, k + 2, hi, hk => by
    have hlt : i < l.length := by omega
    rw [BV _ _ hlt, List.all_cons]; have ih := KS l hl d (i + 1) k (by omega) (by omega)
    have hw : wrap64 ((i : Int) + 1) = ((i + 1 : Nat) : Int) := by rw [T.wrap_small (by omega) (by omega)]; omega
    have hjt : Xw.j1 (k + 1) l i true = some false := by rw [Xw.j1]; rfl
    obtain ⟨k1, rfl⟩ : ∃ j, k = j + 2 := ⟨k - 2, by omega⟩
    rw [Xw.l0, if_pos (by omega), if_pos (by omega), Sl _ _ _ _ _ _ _ _ (k1 + 1)]; simp only [Option.bind_some]
    by_cases hok : Vl ((Xa l i).f0) ((Xa l i).f1) ((Xa l i).f2) ((Xa l i).f3) ((Xa l i).f4) ((Xa l i).f5) ((Xa l i).f6) ((Xa l i).f7) = true
    · have hnx := Lx hok
      rw [if_pos hok, if_pos (by omega), NJ _ _ zb151 _ zb151]; simp only [Option.bind_some, Int.toNat_natCast]
      by_cases hpv : ((Xa l i).f6) = lastB (l.take i) ((Xa l i).f1)
      · rw [if_pos hpv]
        by_cases hni : ((Xa l i).f7) > (i : Int)
        · have e : ZT l i = false := by unfold ZT; simp; omega
          rw [decide_eq_true hni, hjt, e]
          simp
        · rw [decide_eq_false hni, Xw.j1]
          simp only [Bool.false_eq_true, if_false]; rw [if_pos (by omega), if_pos (by omega)]
          by_cases hn0 : ((Xa l i).f7) > 0
          · rw [if_pos hn0, T.wrap_small (by omega) (by omega), if_pos (by omega), if_pos (by omega)]
            by_cases hsm : (Xa l (((Xa l i).f7) - 1)).f1 = ((Xa l i).f1)
            · have e : ZT l i = true := by unfold ZT; rw [hok]; simp [← hpv, hsm]; omega
              rw [if_pos hsm, hw, ih, e]
              simp
            · have e : ZT l i = false := by unfold ZT; simp [hsm]; omega
              rw [if_neg hsm, e]
              simp
          · have e : ZT l i = true := by unfold ZT; rw [hok]; simp [← hpv]; omega
            rw [if_neg hn0, hw, ih, e]
            simp
      · have e : ZT l i = false := by unfold ZT; simp [hpv]
        rw [if_neg hpv, hjt, e]
        simp
    · have e : ZT l i = false := by unfold ZT; simp [hok]
      rw [if_neg hok, hjt, e]
      simp
theorem Df (l : List S41) (hl : l.length ≤ 9223372036854775807) (k : Nat) (hk : 3 * l.length + 4 < k) : Xw.f k l = some (Yz l) := by
  unfold Xw.f Yz
  have h := KS l hl l.length 0 k (by omega) (by omega)
  simpa using h
end Go.Proofs.Ytcefiblpnegepaa.T
namespace Go.Proofs.Ytcefiblpnegepaa.Pr
open Go.RowKit Go.PW Go.Proofs.Ytcefiblpnegepaa.T
theorem Xw.calls (k : Nat) (A0 : Option Addr) (c0 : Nat) (l0 : List S41) (r : Bool) (w : World) (hr0 : Kd.C k41 w A0 l0.length l0) (hc0 : l0.length ≤ c0) (h : Xw.f k l0 = some r) :
    Calls Try.prog 34 #[.slice A0 l0.length c0] w fun e w' => e = .returned (.bool r) ∧ Below w.heap.size w w' := by
  obtain rfl : r = Yz l0 := Xa0 (Xw.mono _) h (Df l0 hr0.2.1 (3 * l0.length + 5) (by omega)); exact Rt _ _ _ _ hr0 hc0
end Go.Proofs.Ytcefiblpnegepaa.Pr
namespace Go.Proofs.Ytcefiblpnegepaa.Pr
open Go.RowKit Go.PW Go.PL Go.PM
attribute [local go_sem] Y3 Y4 YV YW Yk Yl Y5 Y6
set_option linter.unusedVariables false
set_option linter.unusedSimpArgs false
def YB.l0 : Nat → List (S41) → List Int → Int → Option (List Int)
  | 0, _, _, _ => none
  | k + 1, x0, x3, x4 => if x4 ≤ 3 then ((Xu.f k x0 x4).bind fun TN => (if TN > 0 then (if x3.length < 17592186044416 then (YB.l0 k x0 (x3 ++ [x4]) (wrap64 (x4 + 1))) else (none)) else (YB.l0 k x0 x3 (wrap64 (x4 + 1))))) else (some x3)
def YB.f (k : Nat) (l0 : List (S41)) : Option (List Int) := (some (([] : List Int) : List Int)).bind fun NB => ((Xk.f k l0).bind fun TP => (if TP = true then (YB.l0 k l0 NB 1) else (some NB)))
set_option maxHeartbeats 8000000 in
set_option maxRecDepth 100000 in
theorem YB.calls (k : Nat) (A0 : Option Addr) (c0 : Nat) (l0 : List (S41)) (r : List Int) (w : World) (hr0 : Kd.C k41 w A0 l0.length l0) (hc0 : l0.length ≤ c0) (h : YB.f k l0 = some r) :
    Calls Try.prog 65 #[.slice A0 l0.length c0] w fun e w' => ∃ v0_ : Value, e = .returned (v0_) ∧ Kd.R (Kd.int .i64) 3 w' w.heap.size (fun _ => True) v0_ r ∧ Below w.heap.size w w' := by
  have HR0 := zz hr0; have HC0 := zz hc0; clear hr0 hc0; have HB := zz (Below.refl w.heap.size w); have H : ((some (([] : List Int) : List Int)).bind fun NB => ((Xk.f k l0).bind fun TP => (if TP = true then (YB.l0 k l0 NB 1) else (some NB)))) = some r := h; clear h
  obtain ⟨NB, hy1122⟩ : ∃ y_ : List Int, y_ = (([] : List Int)) := ⟨_, rfl⟩
  replace H : ((Xk.f k l0).bind fun TP => (if TP = true then (YB.l0 k l0 NB 1) else (some NB))) = some r := by first | (rw [hy1122]; with_reducible exact H) | (have H2_ := (Option.bind_some _ _).symm.trans H; rw [hy1122]; with_reducible exact H2_) | (have H2_ := (Option.bind_some _ _).symm.trans H; with_reducible exact H2_) | with_reducible exact H | (rw [hy1122]; exact H) | exact H
  have Ny1122 := zz hy1122; clear hy1122; replace H := Option.bind_eq_some_iff.mp H; obtain ⟨TP, A20, H⟩ := H; replace H : (if TP = true then (YB.l0 k l0 NB 1) else (some NB)) = some r := H; have A2 := zz A20; clear A20
  by_cases c3 : TP = true
  · subst c3
    have H1 : (YB.l0 k l0 NB 1) = some r := by rw [if_pos rfl] at H; exact H
    clear H; have H := H1; clear H1; have H' := zz H; clear H
    go_enter Try.func65, Try.ntmps65
    go_wp2_with (first | ((with_reducible refine XZ (N := 5) rfl ?_); refine Kd.Gb (Kd.int .i64) _ 3 ?hg (N := 5) ?hd (xs := ([] : List Int)) (inner := []) (ok := fun _ => True) (okp := fun _ => True) ?hr ?hp (fun _ hk => hk) trivial (Below.refl _ _) (Nat.le_refl _) (by simp) ?_; (case hd => rfl); (case hg => rfl); (case hr => exact zb21); (case hp => exact zb121); intro Xsz w4 ho5 hb hg_ hnew_; clear hg_ hnew_; (first | rw [← Ny1122.out] at ho5 | (simp only [Int.reduceToNat] at ho5; rw [← Ny1122.out] at ho5)); have n0_ := zz (Kd.XT ho5 (Xq zb5)); have n1_ := zz (Xe zb5 hb); clear HB; have Lh := n0_; have HB := n1_; clear n0_ n1_; clear hb ho5) | ((with_reducible refine Xg (f := 32) rfl ?_); refine X6 (some 7) rfl rfl Try.func32 zb13 rfl #[.slice A0 l0.length c0] rfl zb0 ?_; (with_reducible refine (Xk.calls k _ _ l0 true _ ?side1 ?side2 A2.out).mono ?_); (case side1 => exact zb16); (case side2 => exact HC0.out); rintro e w6 ⟨rfl, hb⟩; refine ⟨_, rfl, ?_⟩; have n0_ := zz (Kd.Xz zb95 hb); have n1_ := zz (Xe zb5 hb); clear Lh; clear HB; have Lh := n0_; have HB := n1_; clear n0_ n1_; (try clear hb); (try clear hb2); (try clear hk); (try clear hi)))
    go_loopg [3, 4] k (fun kq v3 v4 w' => ∃ (X5 : List Int) (J7 : Int), v4 = .int .i64 J7 ∧ Aside0 (YB.l0 kq l0 X5 J7 = some r) ∧ Aside0 (kq ≤ k) ∧ Aside0 (Kd.R (Kd.int .i64) 3 w' w.heap.size (fun _ => True) v3 X5) ∧ Aside0 (Below w.heap.size w w'))
    case atStart => exact ⟨(NB), (1), zb12, H', ⟨Nat.le_refl _⟩, ⟨zb95⟩, ⟨zb5⟩⟩
    case round =>
      clear H'
      try clear p2
      try clear c3
      try clear c6
      obtain ⟨X5, J7, rfl, HA, HK1, HO_3, HB⟩ := hrel
      cases gk with
      | zero => exact absurd HA.out (by simp [YB.l0])
      | succ k1 =>
        have H := HA.out; clear HA; simp only [YB.l0] at H
        by_cases c7 : J7 ≤ 3
        · rw [if_pos c7] at H
          have c7b0 : decide (J7 ≤ 3) = true := decide_eq_true c7; clear c7; replace H := Option.bind_eq_some_iff.mp H; obtain ⟨TN, A80, H⟩ := H; replace H : (if TN > 0 then (if X5.length < 17592186044416 then (YB.l0 k1 l0 (X5 ++ [J7]) (wrap64 (J7 + 1))) else (none)) else (YB.l0 k1 l0 X5 (wrap64 (J7 + 1)))) = some r := H; have A8 := zz A80; clear A80
          by_cases c9 : TN > 0
          · rw [if_pos c9] at H
            have c9b0 : decide (0 < TN) = true := decide_eq_true c9; clear c9
            by_cases c10 : X5.length < 17592186044416
            · rw [if_pos c10] at H
              have LMc10 := zz c10; clear c10
              obtain ⟨Xl5, hy1127⟩ : ∃ y_ : List Int, y_ = (X5 ++ [J7]) := ⟨_, rfl⟩
              replace H : (YB.l0 k1 l0 Xl5 (wrap64 (J7 + 1))) = some r := by first | (rw [hy1127]; with_reducible exact H) | (have H2_ := (Option.bind_some _ _).symm.trans H; rw [hy1127]; with_reducible exact H2_) | (have H2_ := (Option.bind_some _ _).symm.trans H; with_reducible exact H2_) | with_reducible exact H | (rw [hy1127]; exact H) | exact H
              have Ny1127 := zz hy1127; clear hy1127; have H' := zz H; clear H
              go_wp2_with (first | ((with_reducible refine Xg (f := 84) rfl ?_); refine X6 (some 16) rfl rfl Try.func84 zb13 rfl #[.slice A0 l0.length c0, .int .i64 J7] rfl zb0 ?_; (with_reducible refine (Xu.calls k1 _ _ l0 J7 TN _ ?side1 ?side2 A8.out).mono ?_); (case side1 => exact zb16); (case side2 => exact HC0.out); rintro e w' ⟨rfl, ⟨nd, rfl⟩⟩; refine ⟨_, rfl, ?_⟩) | ((with_reducible refine Zk (b := .append) (xs := #[.tmp 18, .tmp 20]) rfl ?_); at_builtin; refine Kd.Gv (Kd.int .i64) (w0 := w) w.heap.size rfl (.tmp 18) (.tmp 20) 23 3 (.int .i64 0) 8 rfl Try.underlying23 info3 rfl (by decide) (by omega) u3 X5 J7 [.int .i64 J7] (fun _ => True) (fun _ => False) rfl rfl ?aP (fun _ hk => hk.elim) ?aF ?aO ?aB ?aS ?aL ?_; (case aP => exact rfl); (case aB => exact zb5); (case aF => exact zb139); (case aO => exact zb118); (case aS => exact (Xq zb5)); (case aL => have := LMc10.out; omega); intro v1128 w11 ho hb hg hat; rw [← Ny1127.out] at ho; have n0_ := zz (hb); have n1_ := zz (ho); clear HB; clear HO_3; have HB := n0_; have Xm9 := n1_; clear n0_ n1_; clear ho hb hg hat))
              go_roundg k1
              case measure => have := HK1.out; omega
              case rel => exact ⟨(Xl5), (wrap64 (J7 + 1)), zb12, H', ⟨zb61⟩, ⟨by (with_reducible repeat (first | apply Kd.XI | apply Kd.XJ | apply Kd.XR)); exact Xm9.out⟩, ⟨zb5⟩⟩
            · rw [if_neg c10] at H
              exact absurd H (by simp)
          · rw [if_neg c9] at H
            have c9b0 : decide (0 < TN) = false := decide_eq_false c9; clear c9; have H' := zz H; clear H
            go_wp2_with (first | ((with_reducible refine Xg (f := 84) rfl ?_); refine X6 (some 16) rfl rfl Try.func84 zb13 rfl #[.slice A0 l0.length c0, .int .i64 J7] rfl zb0 ?_; (with_reducible refine (Xu.calls k1 _ _ l0 J7 TN _ ?side1 ?side2 A8.out).mono ?_); (case side1 => exact zb16); (case side2 => exact HC0.out); rintro e w' ⟨rfl, ⟨nd, rfl⟩⟩; refine ⟨_, rfl, ?_⟩))
            go_roundg k1
            case measure => have := HK1.out; omega
            case rel => exact ⟨(X5), (wrap64 (J7 + 1)), zb12, H', ⟨zb61⟩, ⟨zb118⟩, ⟨zb5⟩⟩
        · rw [if_neg c7] at H
          have c7b0 : decide (J7 ≤ 3) = false := decide_eq_false c7; clear c7; obtain rfl := Option.some.inj H
          go_wp2
          go_ret
          exact ⟨_, zb11, zb118, zb5⟩
  · replace c3 := Bool.eq_false_iff.mpr c3
    subst c3
    have H1 : (some NB) = some r := by rw [if_neg (show ¬ (false = true) by decide)] at H; exact H
    clear H; have H := H1; clear H1; obtain rfl := Option.some.inj H
    go_enter Try.func65, Try.ntmps65
    go_wp2_with (first | ((with_reducible refine XZ (N := 5) rfl ?_); refine Kd.Gb (Kd.int .i64) _ 3 ?hg (N := 5) ?hd (xs := ([] : List Int)) (inner := []) (ok := fun _ => True) (okp := fun _ => True) ?hr ?hp (fun _ hk => hk) trivial (Below.refl _ _) (Nat.le_refl _) (by simp) ?_; (case hd => rfl); (case hg => rfl); (case hr => exact zb21); (case hp => exact zb121); intro Xsz w12 ho13 hb hg_ hnew_; clear hg_ hnew_; (first | rw [← Ny1122.out] at ho13 | (simp only [Int.reduceToNat] at ho13; rw [← Ny1122.out] at ho13)); have n0_ := zz (Kd.XT ho13 (Xq zb5)); have n1_ := zz (Xe zb5 hb); clear HB; have Lh := n0_; have HB := n1_; clear n0_ n1_; clear hb ho13) | ((with_reducible refine Xg (f := 32) rfl ?_); refine X6 (some 7) rfl rfl Try.func32 zb13 rfl #[.slice A0 l0.length c0] rfl zb0 ?_; (with_reducible refine (Xk.calls k _ _ l0 false _ ?side1 ?side2 A2.out).mono ?_); (case side1 => exact zb16); (case side2 => exact HC0.out); rintro e w14 ⟨rfl, hb⟩; refine ⟨_, rfl, ?_⟩; have n0_ := zz (Kd.Xz zb95 hb); have n1_ := zz (Xe zb5 hb); clear Lh; clear HB; have Lh := n0_; have HB := n1_; clear n0_ n1_; (try clear hb); (try clear hb2); (try clear hk); (try clear hi)))
    go_ret
    exact ⟨_, zb11, zb95, zb5⟩
end Go.Proofs.Ytcefiblpnegepaa.Pr
