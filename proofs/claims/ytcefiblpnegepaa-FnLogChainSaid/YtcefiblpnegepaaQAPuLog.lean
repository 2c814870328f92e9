import Derived.Test.YtcefiblpnegepaaQAByq
import Derived.Test.YtcefiblpnegepaaQASq
import Derived.Test.YtcefiblpnegepaaQAWEngA
import Derived.Test.YtcefiblpnegepaaQASx
import Derived.Test.YtcefiblpnegepaaQAPrM
import Derived.Test.YtcefiblpnegepaaQAPrNew
import Derived.Test.YtcefiblpnegepaaQAEngT4
namespace Go.Proofs.Ytcefiblpnegepaa.Pr
open Go.RowKit Go.PW Go.PL Go.PM
attribute [local go_sem] YB YC Zc Zd Yn Yo YD YE
set_option linter.unusedVariables false
set_option linter.unusedSimpArgs false
def Yz.l0 : Nat → List Int → Int → Int → Option (Bool)
  | 0, _, _, _ => none
  | k + 1, x0, x1, x5 => if x5 < (x0.length : Int) then (if 0 ≤ x5 then (if (rd x0 x5) = x1 then (some true) else (Yz.l0 k x0 x1 (wrap64 (x5 + 1)))) else (none)) else (some false)
def Yz.f (k : Nat) (l0 : List Int) (a1 : Int) : Option (Bool) := Yz.l0 k l0 a1 0
set_option maxHeartbeats 8000000 in
set_option maxRecDepth 100000 in
theorem Yz.calls (k : Nat) (A0 : Option Addr) (c0 : Nat) (l0 : List Int) (a1 : Int) (r : Bool) (w : World) (hr0 : Kd.C (Kd.int .i64) w A0 l0.length l0) (hc0 : l0.length ≤ c0) (h : Yz.f k l0 a1 = some r) :
    Calls Try.prog 71 #[.slice A0 l0.length c0, .int .i64 a1] w fun e w' => e = .returned (.bool r) ∧ Vp w w' := by
  have HR0 := zz hr0; have HC0 := zz hc0; clear hr0 hc0; have H : (Yz.l0 k l0 a1 0) = some r := h; clear h; have H' := zz H; clear H
  go_enter Try.func71, Try.ntmps71
  go_wp2
  go_loopg [5] k (fun kq v5 w' => ∃ (Yj : Int), v5 = .int .i64 Yj ∧ Aside0 (Yz.l0 kq l0 a1 Yj = some r) ∧ Aside0 (kq ≤ k) ∧ Vp w w')
  case atStart => exact ⟨(0), zb12, H', ⟨Nat.le_refl _⟩, zb25⟩
  case round =>
    clear H'
    try clear p2
    obtain ⟨Yj, rfl, HA, HK1, ⟨m1, rfl⟩⟩ := hrel
    cases gk with
    | zero => exact absurd HA.out (by simp [Yz.l0])
    | succ k1 =>
      have H := HA.out; clear HA; simp only [Yz.l0] at H
      by_cases c3 : Yj < (l0.length : Int)
      · rw [if_pos c3] at H
        have c3b0 : decide (Yj < (l0.length : Int)) = true := decide_eq_true c3; clear c3
        by_cases c4 : 0 ≤ Yj
        · rw [if_pos c4] at H
          have c4b0 : decide (0 ≤ Yj) = true := decide_eq_true c4; clear c4
          by_cases c5 : (rd l0 Yj) = a1
          · rw [if_pos c5] at H
            have c5b0 : ((rd l0 Yj) == a1) = true := beq_iff_eq.mpr c5; have c5b1 : ((rd l0 Yj) != a1) = false := bne_eq_false_iff_eq.mpr c5; clear c5; obtain rfl := Option.some.inj H; have Xb5 : 0 ≤ (Yj : Int) := of_decide_eq_true zb7; have Xb6 : Yj < (l0.length : Int) := of_decide_eq_true zb7; obtain ⟨Xti, XnJ, Xkm⟩ := Kd.Jl HR0.out Yj Xb5 Xb6
            cases XnJ
            replace Xb5 := eq_true Xb5; replace Xb6 := eq_true Xb6
            go_wp2
            go_ret
            exact ⟨zb12, zb25⟩
          · rw [if_neg c5] at H
            have c5b0 : ((rd l0 Yj) == a1) = false := beq_eq_false_iff_ne.mpr c5; have c5b1 : ((rd l0 Yj) != a1) = true := bne_iff_ne.mpr c5; have H' := zz H; clear H; have Xb5 : 0 ≤ (Yj : Int) := of_decide_eq_true zb7; have Xb6 : Yj < (l0.length : Int) := of_decide_eq_true zb7; obtain ⟨Xti, XnJ, Xkm⟩ := Kd.Jl HR0.out Yj Xb5 Xb6
            cases XnJ
            replace Xb5 := eq_true Xb5; replace Xb6 := eq_true Xb6
            go_wp2
            go_roundg k1
            case measure => have := HK1.out; omega
            case rel => exact ⟨(wrap64 (Yj + 1)), zb12, H', ⟨zb54⟩, zb25⟩
        · rw [if_neg c4] at H
          exact absurd H (by simp)
      · rw [if_neg c3] at H
        have c3b0 : decide (Yj < (l0.length : Int)) = false := decide_eq_false c3; clear c3; obtain rfl := Option.some.inj H
        go_wp2
        go_ret
        exact ⟨zb12, zb25⟩
end Go.Proofs.Ytcefiblpnegepaa.Pr
namespace Go.Proofs.Ytcefiblpnegepaa.T
open Go.RowKit Go.PW Go.Proofs.Ytcefiblpnegepaa.Pr
set_option linter.unusedSimpArgs false
set_option linter.unusedVariables false
theorem II (t : Int) (x : Rc) : ∀ a : List Rc, Fy t (a ++ [x]) = 1 → Fy t a = 0
  | [], _ => rfl
  | y :: a, h => by
    rw [List.cons_append, Fy] at h; rw [Fy]
    by_cases h1 : y.f1 = t
    · rw [if_pos h1] at h
      split at h
      · omega
      · simp at h
        omega
    · rw [if_neg h1] at h
      rw [if_neg h1]; exact II t x a h
theorem XeI (t : Int) (x : Rc) (s : List Rc) (h : lastB (x :: s) t = 1) : lastB s t = 0 := by
  unfold lastB at h ⊢
  rw [List.reverse_cons] at h; exact II t x _ h
theorem TU {l : List Rc} {i : Nat} (h : ZX l i = true) : (Xa l (i : Int)).f6 = lastB (l.take i) (Xa l (i : Int)).f1 := by
  unfold ZX at h
  simp only [Bool.and_eq_true, beq_iff_eq] at h; exact h.1.1.2
theorem LC {l : List Rc} (h : YW l = true) (i : Nat) (hi : i < l.length) : ZX l i = true := by
  unfold YW at h
  simp only [Bool.and_eq_true, List.all_eq_true] at h; exact h.2 i (by simpa using hi)
theorem IJ {l : List Rc} {i n : Nat} (hi : i < n) : ZX (l.take n) i = ZX l i := by
  have e : ∀ j : Int, 0 ≤ j → j < (n : Int) → Xa (l.take n) j = Xa l j := fun j h0 h1 => Lr l n j h0 h1
  unfold ZX
  rw [e (i : Int) (by omega) (by omega), List.take_take, Nat.min_eq_left (by omega)]
  by_cases h7 : (Xa l (i : Int)).f7 ≤ (i : Int)
  · by_cases h0 : (Xa l (i : Int)).f7 ≤ 0
    · rw [decide_eq_true h0, Bool.true_or, Bool.true_or]
    · rw [e _ (by omega) (by omega)]
  · rw [decide_eq_false h7, Bool.and_false, Bool.false_and, Bool.false_and]
theorem Xce {l : List Rc} (h : YW l = true) (n : Nat) : YW (l.take n) = true := by
  have hl := G9 h
  unfold YW
  rw [Bool.and_eq_true, decide_eq_true_eq, List.all_eq_true]; refine ⟨by rw [List.length_take]; omega, fun i hi => ?_⟩; rw [List.mem_range, List.length_take] at hi; rw [IJ (by omega)]; exact LC h i (by omega)
theorem XeJ (l : List Rc) (i : Nat) : Xa (l.drop 1) (i : Int) = Xa l ((i + 1 : Nat) : Int) := by
  unfold Xa
  rw [List.getD_eq_getElem?_getD, List.getD_eq_getElem?_getD, List.getElem?_drop, Int.toNat_natCast, Int.toNat_natCast, Nat.add_comm 1 i]
theorem XlA {l : List Rc} (h : YW l = true) (i : Nat) (h1 : 1 ≤ i) (hi : i < l.length) (h6 : (Xa l (i : Int)).f6 = 1) : YW (l.drop 1) = false := by
  cases l with
  | nil => simp at hi
  | cons x r =>
    obtain ⟨j, rfl⟩ : ∃ j, i = j + 1 := ⟨i - 1, by omega⟩
    have hp := TU (LC h (j + 1) hi); rw [h6, List.take_succ_cons] at hp; have h0 := XeI _ _ _ hp.symm; refine VR (i := j) (by simpa using hi) ?_
    cases hk : ZX ((x :: r).drop 1) j with
    | false => rfl
    | true =>
      have hq := TU hk; rw [XeJ, h6] at hq; simp only [List.drop_succ_cons, List.drop_zero] at hq; omega
theorem Xbe (a b : List Int) (hl : a.length = b.length) (hm : a.length ≤ 9223372036854775807) : ∀ (d k i : Nat), i + d = a.length → d < k → XP.l0 k a b i = some (decide (a.drop i = b.drop i))
  | 0, k + 1, i, hi, _ => by
    unfold XP.l0
    rw [if_neg (by omega), List.drop_of_length_le (by omega), List.drop_of_length_le (by omega)]
    rfl
  | d + 1, k + 1, i, hi, hk => by
    unfold XP.l0
    rw [if_pos (by omega), if_pos (by omega), if_pos (by omega), T.wrap_small (by omega) (by omega)]; have ih := Xbe a b hl hm d k (i + 1) (by omega) (by omega); rw [show (i : Int) + 1 = ((i + 1 : Nat) : Int) by omega, ih, L6 (l := a) (i := i) (by omega), L6 (l := b) (i := i) (by omega)]
    by_cases h : rd a i = rd b i
    · simp [h]
    · simp [h]
theorem XhG (a b : List Int) (hm : a.length ≤ 9223372036854775807) (k : Nat) (hk : a.length < k) : XP.f k a b = some (decide (a = b)) := by
  unfold XP.f
  by_cases h : a.length = b.length
  · rw [if_pos (by omega)]
    have e := Xbe a b h hm a.length k 0 (by omega) hk
    simpa using e
  · rw [if_neg (by omega)]
    have : a ≠ b := fun e => h (by rw [e])
    simp [this]
theorem LD (a : List Int) (hm : a.length ≤ 1000) (k : Nat) (hk : 1001 ≤ k) : XP.f k a a = some true := by
  rw [XhG a a (by omega) k (by omega)]
  simp
theorem XdR (a : List Int) (x : Int) (hm : a.length ≤ 1000) : ∀ (d k i : Nat), i + d = a.length → d < k → Yz.l0 k a x (i : Int) = some (decide (x ∈ a.drop i))
  | 0, k + 1, i, hi, _ => by
    rw [Yz.l0, if_neg (by omega), List.drop_of_length_le (by omega)]
    simp
  | d + 1, k + 1, i, hi, hk => by
    rw [Yz.l0, if_pos (by omega), if_pos (by omega), Mj (by omega) (by omega), L6 (l := a) (i := i) (by omega)]; have ih := XdR a x hm d k (i + 1) (by omega) (by omega)
    by_cases h : rd a (i : Int) = x
    · rw [if_pos h]
      simp [h]
    · rw [if_neg h]
      have h2 : ¬ x = rd a (i : Int) := fun e => h e.symm
      have ih2 : Yz.l0 k a x ((i : Int) + 1) = some (decide (x ∈ a.drop (i + 1))) := ih; rw [ih2]
      simp [h2]
theorem XlB (a : List Int) (x : Int) (hm : a.length ≤ 1000) (k : Nat) (hk : 1001 ≤ k) : Yz.f k a x = some (decide (x ∈ a)) := by
  have h := XdR a x hm a.length k 0 (by omega) (by omega); rw [List.drop_zero] at h; exact h
theorem IK (t : Int) : ∀ l : List Rc, 0 < Fy t l → (rc l.reverse (Fy t l - 1)).f1 = t ∧ (rc l.reverse (Fy t l - 1)).f0 ≠ 4 ∧ (rc l.reverse (Fy t l - 1)).f0 ≠ 5
  | [], h => by simp [Fy] at h
  | x :: l, h => by
    rw [List.reverse_cons]
    unfold Fy at h ⊢
    by_cases h1 : x.f1 = t
    · rw [if_pos h1] at h ⊢
      split at h
      · omega
      · rename_i hk
        rw [if_neg hk]; have := EB l.reverse x; rw [List.length_reverse] at this; rw [show ((l.length : Int) + 1 - 1) = (l.length : Int) by omega, this]; exact ⟨h1, fun h4 => hk (.inl h4), fun h5 => hk (.inr h5)⟩
    · rw [if_neg h1] at h ⊢
      have hb := WJ t l; rw [WH _ _ _ (by omega) (by rw [List.length_reverse]; omega)]; exact IK t l h
theorem IE {l : List Rc} {t : Int} (h : 0 < lastB l t) : (Xa l (lastB l t - 1)).f1 = t ∧ (Xa l (lastB l t - 1)).f0 ≠ 4 ∧ (Xa l (lastB l t - 1)).f0 ≠ 5 := by
  have := IK t l.reverse h; rw [List.reverse_reverse] at this; exact this
theorem XhH (l : List Rc) (x : Rc) : Xa (l ++ [x]) (l.length : Int) = x := EB l x
theorem Xcf {l : List Rc} (h : YW l = true) (x : Rc) (hl : l.length < 150) (hx : ZX (l ++ [x]) l.length = true) : YW (l ++ [x]) = true := by
  unfold YW
  rw [Bool.and_eq_true, decide_eq_true_eq, List.all_eq_true]; refine ⟨zb153, fun i hi => ?_⟩; rw [List.mem_range, List.length_append, List.length_singleton] at hi
  by_cases e : i = l.length
  · rw [e]
    exact hx
  · rw [← IJ (n := l.length) (by omega), List.take_append_of_le_length (Nat.le_refl _), List.take_length]
    exact LC h i (by omega)
theorem XhI (l : List Rc) (x : Rc) : ZX (l ++ [x]) l.length = (VQ x.f0 x.f1 x.f2 x.f3 x.f4 x.f5 x.f6 x.f7 && x.f6 == lastB l x.f1 && decide (x.f7 ≤ (l.length : Int)) && (decide (x.f7 ≤ 0) || (Xa (l ++ [x]) (x.f7 - 1)).f1 == x.f1)) := by
  unfold ZX
  rw [XhH, List.take_append_of_le_length (Nat.le_refl _), List.take_length]
end Go.Proofs.Ytcefiblpnegepaa.T
