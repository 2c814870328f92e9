import Derived.Test.YtcefiblpnegepaaQBByq
import Derived.Test.YtcefiblpnegepaaQBSq
import Derived.Test.YtcefiblpnegepaaQBWEngA
import Derived.Test.YtcefiblpnegepaaQBSx
import Derived.Test.YtcefiblpnegepaaQBPrM
import Derived.Test.YtcefiblpnegepaaQBPrNew
import Derived.Test.YtcefiblpnegepaaQBEngT4
namespace Go.Proofs.Ytcefiblpnegepaa.Pr
open Go.RowKit Go.PW Go.PL Go.PM
attribute [local go_sem] Y3 Y4 YV YW Yk Yl Y5 Y6
set_option linter.unusedVariables false
set_option linter.unusedSimpArgs false
def XL.l0 : Nat → List Int → Int → Int → Option (Bool)
  | 0, _, _, _ => none
  | k + 1, x0, x1, x5 => if x5 < (x0.length : Int) then (if 0 ≤ x5 then (if (rd x0 x5) = x1 then (some true) else (XL.l0 k x0 x1 (wrap64 (x5 + 1)))) else (none)) else (some false)
def XL.f (k : Nat) (l0 : List Int) (a1 : Int) : Option (Bool) := XL.l0 k l0 a1 0
set_option maxHeartbeats 8000000 in
set_option maxRecDepth 100000 in
theorem XL.calls (k : Nat) (A0 : Option Addr) (c0 : Nat) (l0 : List Int) (a1 : Int) (r : Bool) (w : World) (hr0 : Kd.C (Kd.int .i64) w A0 l0.length l0) (hc0 : l0.length ≤ c0) (h : XL.f k l0 a1 = some r) :
    Calls Try.prog 71 #[.slice A0 l0.length c0, .int .i64 a1] w fun e w' => e = .returned (.bool r) ∧ Vk w w' := by
  have HR0 := zz hr0; have HC0 := zz hc0; clear hr0 hc0; have H : (XL.l0 k l0 a1 0) = some r := h; clear h; have H' := zz H; clear H
  go_enter Try.func71, Try.ntmps71
  go_wp2
  go_loopg [5] k (fun kq v5 w' => ∃ (Yh : Int), v5 = .int .i64 Yh ∧ Aside0 (XL.l0 kq l0 a1 Yh = some r) ∧ Aside0 (kq ≤ k) ∧ Vk w w')
  case atStart => exact ⟨(0), zb12, H', ⟨Nat.le_refl _⟩, zb24⟩
  case round =>
    clear H'
    try clear p2
    obtain ⟨Yh, rfl, HA, HK1, ⟨m1, rfl⟩⟩ := hrel
    cases gk with
    | zero => exact absurd HA.out (by simp [XL.l0])
    | succ k1 =>
      have H := HA.out; clear HA; simp only [XL.l0] at H
      by_cases c3 : Yh < (l0.length : Int)
      · rw [if_pos c3] at H
        have c3b0 : decide (Yh < (l0.length : Int)) = true := decide_eq_true c3; clear c3
        by_cases c4 : 0 ≤ Yh
        · rw [if_pos c4] at H
          have c4b0 : decide (0 ≤ Yh) = true := decide_eq_true c4; clear c4
          by_cases c5 : (rd l0 Yh) = a1
          · rw [if_pos c5] at H
            have c5b0 : ((rd l0 Yh) == a1) = true := beq_iff_eq.mpr c5; have c5b1 : ((rd l0 Yh) != a1) = false := bne_eq_false_iff_eq.mpr c5; clear c5; obtain rfl := Option.some.inj H; have Xbd : 0 ≤ (Yh : Int) := of_decide_eq_true zb9; have Xbe : Yh < (l0.length : Int) := of_decide_eq_true zb9; obtain ⟨XsC, Xnd, Xjx⟩ := Kd.Vv HR0.out Yh Xbd Xbe
            cases Xnd
            replace Xbd := eq_true Xbd; replace Xbe := eq_true Xbe
            go_wp2
            go_ret
            exact ⟨zb12, zb24⟩
          · rw [if_neg c5] at H
            have c5b0 : ((rd l0 Yh) == a1) = false := beq_eq_false_iff_ne.mpr c5; have c5b1 : ((rd l0 Yh) != a1) = true := bne_iff_ne.mpr c5; have H' := zz H; clear H; have Xbd : 0 ≤ (Yh : Int) := of_decide_eq_true zb9; have Xbe : Yh < (l0.length : Int) := of_decide_eq_true zb9; obtain ⟨XsC, Xnd, Xjx⟩ := Kd.Vv HR0.out Yh Xbd Xbe
            cases Xnd
            replace Xbd := eq_true Xbd; replace Xbe := eq_true Xbe
            go_wp2
            go_roundg k1
            case measure => have := HK1.out; omega
            case rel => exact ⟨(wrap64 (Yh + 1)), zb12, H', ⟨zb61⟩, zb24⟩
        · rw [if_neg c4] at H
          exact absurd H (by simp)
      · rw [if_neg c3] at H
        have c3b0 : decide (Yh < (l0.length : Int)) = false := decide_eq_false c3; clear c3; obtain rfl := Option.some.inj H
        go_wp2
        go_ret
        exact ⟨zb12, zb24⟩
end Go.Proofs.Ytcefiblpnegepaa.Pr
namespace Go.Proofs.Ytcefiblpnegepaa.T
open Go.RowKit Go.PW Go.Proofs.Ytcefiblpnegepaa.Pr
set_option linter.unusedSimpArgs false
set_option linter.unusedVariables false
theorem Xhl {l : List Rc} (h : Yz l = true) (i : Nat) (hi : i < l.length) : ZT l i = true := by
  unfold Yz at h
  simp only [Bool.and_eq_true, List.all_eq_true] at h; exact h.2 i (by simpa using hi)
theorem Xep {l : List Rc} {i n : Nat} (hi : i < n) : ZT (l.take n) i = ZT l i := by
  have e : ∀ j : Int, 0 ≤ j → j < (n : Int) → Xa (l.take n) j = Xa l j := fun j h0 h1 => RU l n j h0 h1
  unfold ZT
  rw [e (i : Int) (by omega) (by omega), List.take_take, Nat.min_eq_left (by omega)]
  by_cases h7 : (Xa l (i : Int)).f7 ≤ (i : Int)
  · by_cases h0 : (Xa l (i : Int)).f7 ≤ 0
    · rw [decide_eq_true h0, Bool.true_or, Bool.true_or]
    · rw [e _ (by omega) (by omega)]
  · rw [decide_eq_false h7, Bool.and_false, Bool.false_and, Bool.false_and]
theorem XaA (a b : List Int) (hl : a.length = b.length) (hm : a.length ≤ 9223372036854775807) : ∀ (d k i : Nat), i + d = a.length → d < k → Xj.l0 k a b i = some (decide (a.drop i = b.drop i))
  | 0, k + 1, i, hi, _ => by
    unfold Xj.l0
    rw [if_neg (by omega), List.drop_of_length_le (by omega), List.drop_of_length_le (by omega)]
    rfl
  | d + 1, k + 1, i, hi, hk => by
    unfold Xj.l0
    rw [if_pos (by omega), if_pos (by omega), if_pos (by omega), T.wrap_small (by omega) (by omega)]; have ih := XaA a b hl hm d k (i + 1) (by omega) (by omega); rw [show (i : Int) + 1 = ((i + 1 : Nat) : Int) by omega, ih, WL (l := a) (i := i) (by omega), WL (l := b) (i := i) (by omega)]
    by_cases h : rd a i = rd b i
    · simp [h]
    · simp [h]
theorem Xhm (a b : List Int) (hm : a.length ≤ 9223372036854775807) (k : Nat) (hk : a.length < k) : Xj.f k a b = some (decide (a = b)) := by
  unfold Xj.f
  by_cases h : a.length = b.length
  · rw [if_pos (by omega)]
    have e := XaA a b h hm a.length k 0 (by omega) hk
    simpa using e
  · rw [if_neg (by omega)]
    have : a ≠ b := fun e => h (by rw [e])
    simp [this]
theorem Gy (a : List Int) (hm : a.length ≤ 1000) (k : Nat) (hk : 1001 ≤ k) : Xj.f k a a = some true := by
  rw [Xhm a a (by omega) k (by omega)]
  simp
theorem Xdr (a : List Int) (x : Int) (hm : a.length ≤ 1000) : ∀ (d k i : Nat), i + d = a.length → d < k → XL.l0 k a x (i : Int) = some (decide (x ∈ a.drop i))
  | 0, k + 1, i, hi, _ => by
    rw [XL.l0, if_neg (by omega), List.drop_of_length_le (by omega)]
    simp
  | d + 1, k + 1, i, hi, hk => by
    rw [XL.l0, if_pos (by omega), if_pos (by omega), M7 (by omega) (by omega), WL (l := a) (i := i) (by omega)]; have ih := Xdr a x hm d k (i + 1) (by omega) (by omega)
    by_cases h : rd a (i : Int) = x
    · rw [if_pos h]
      simp [h]
    · rw [if_neg h]
      have h2 : ¬ x = rd a (i : Int) := fun e => h e.symm
      have ih2 : XL.l0 k a x ((i : Int) + 1) = some (decide (x ∈ a.drop (i + 1))) := ih; rw [ih2]
      simp [h2]
theorem XkN (a : List Int) (x : Int) (hm : a.length ≤ 1000) (k : Nat) (hk : 1001 ≤ k) : XL.f k a x = some (decide (x ∈ a)) := by
  have h := Xdr a x hm a.length k 0 (by omega) (by omega); rw [List.drop_zero] at h; exact h
theorem XaB (l : List Rc) (x : Rc) (i : Int) (h0 : 0 ≤ i) (h1 : i < (l.length : Int)) : Xa (l ++ [x]) i = Xa l i := Wl l x i h0 h1
theorem Es (l : List Rc) (x : Rc) : Xa (l ++ [x]) (l.length : Int) = x := Qf l x
theorem Et {l : List Rc} (h : Yz l = true) (x : Rc) (hl : l.length < 150) (hx : ZT (l ++ [x]) l.length = true) : Yz (l ++ [x]) = true := by
  unfold Yz
  rw [Bool.and_eq_true, decide_eq_true_eq, List.all_eq_true]; refine ⟨zb151, fun i hi => ?_⟩; rw [List.mem_range, List.length_append, List.length_singleton] at hi
  by_cases e : i = l.length
  · rw [e]
    exact hx
  · rw [← Xep (n := l.length) (by omega), List.take_append_of_le_length (Nat.le_refl _), List.take_length]
    exact Xhl h i (by omega)
theorem Eu (l : List Rc) (x : Rc) : ZT (l ++ [x]) l.length = (Vl x.f0 x.f1 x.f2 x.f3 x.f4 x.f5 x.f6 x.f7 && x.f6 == lastB l x.f1 && decide (x.f7 ≤ (l.length : Int)) && (decide (x.f7 ≤ 0) || (Xa (l ++ [x]) (x.f7 - 1)).f1 == x.f1)) := by
  unfold ZT
  rw [Es, List.take_append_of_le_length (Nat.le_refl _), List.take_length]
theorem PH {l : List Rc} (h : Yz l = true) (x : Rc) : ∀ (n : Nat) (a : Int), a ≤ (l.length : Int) → chainB (l ++ [x]) n a = chainB l n a
  | 0, _, _ => rfl
  | n + 1, a, ha => by
    rw [chainB, chainB]
    by_cases h0 : 0 < a
    · obtain ⟨j, rfl⟩ := GJ h0
      have b := Vq h j (by omega); rw [if_pos h0, if_pos h0, show (j : Int) + 1 - 1 = (j : Int) by omega, XaB l x _ (by omega) (by omega), PH h x n _ (by omega)]
    · rw [if_neg h0, if_neg h0]
theorem TU {l : List Rc} (h : Yz l = true) : ∀ (n m : Nat) (a : Int), a ≤ (n : Int) → a ≤ (m : Int) → a ≤ (l.length : Int) → chainB l n a = chainB l m a
  | 0, 0, _, _, _, _ => rfl
  | 0, m + 1, a, ha, _, _ => by rw [chainB, chainB, if_neg (by omega)]
  | n + 1, 0, a, _, ha, _ => by rw [chainB, chainB, if_neg (by omega)]
  | n + 1, m + 1, a, h1, h2, hl => by
    rw [chainB, chainB]
    by_cases h0 : 0 < a
    · obtain ⟨j, rfl⟩ := GJ h0
      have b := Vq h j (by omega); rw [if_pos h0, if_pos h0, show (j : Int) + 1 - 1 = (j : Int) by omega, TU h n m _ (by omega) (by omega) (by omega)]
    · rw [if_neg h0, if_neg h0]
end Go.Proofs.Ytcefiblpnegepaa.T
