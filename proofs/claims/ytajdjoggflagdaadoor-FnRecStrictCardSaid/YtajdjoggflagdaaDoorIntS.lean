/- Slices of ints: what toIntS, eqIntS, szIntS, markIntS and heldIntS come to. -/
import Derived.Test.YtajdjoggflagdaaDoorBase
import Derived.Test.YtajdjoggflagdaaDoorPrInts
namespace Go.Proofs.YtajdjoggflagdaaDoor.T
open Go.RowKit Go.Proofs.YtajdjoggflagdaaDoorW.PrintWords Go.Proofs.YtajdjoggflagdaaDoor.Pr
set_option linter.unusedSimpArgs false
set_option linter.unusedVariables false

/-- A slice of ints reads so. -/
abbrev CI (w : World) (A : Option Addr) (l : List Int) : Prop := Kd.C (Kd.int .i64) w A l.length l
theorem CI_below {w w1 : World} {A : Option Addr} {l : List Int} (h : CI w A l) (hb : Below w.heap.size w w1) : CI w1 A l := Kd.C_below h hb
theorem bl0 {w : World} (o : Obj) : Below w.heap.size w (w.alloc o) := below_alloc (Below.refl _ _) o
theorem bl1 {w : World} (o : Obj) (n : Nat) : Below w.heap.size w ((w.alloc o).drewN n) := pw_below_drewN (below_alloc (Below.refl _ _) o) n
theorem bl2 {w : World} (o o1 : Obj) : Below w.heap.size w ((w.alloc o).alloc o1) := below_alloc (below_alloc (Below.refl _ _) o) o1
theorem bl3 {w : World} (o o1 o2 : Obj) : Below w.heap.size w (((w.alloc o).alloc o1).alloc o2) := below_alloc (below_alloc (below_alloc (Below.refl _ _) o) o1) o2
theorem wrap_small {x : Int} (h0 : -9223372036854775808 ≤ x) (h1 : x ≤ 9223372036854775807) : wrap64 x = x := by unfold wrap64; omega

theorem toIntS_l0 (l : List Int) (hl : l.length ≤ 35184372088832) : ∀ (d k i : Nat), l.length - i = d → i ≤ l.length → d < k →
    laws_toIntS.l0 k l (l.take i ++ List.replicate (l.length - i) 0) i = some l := by
  intro d
  induction d with
  | zero =>
    intro k i hd hi hk
    obtain ⟨k, rfl⟩ : ∃ m, k = m + 1 := ⟨k - 1, by omega⟩
    have e : i = l.length := by omega
    subst e
    simp only [laws_toIntS.l0]
    rw [if_neg (by omega)]
    simp
  | succ d ih =>
    intro k i hd hi hk
    obtain ⟨k, rfl⟩ : ∃ m, k = m + 1 := ⟨k - 1, by omega⟩
    have hlt : i < l.length := by omega
    simp only [laws_toIntS.l0]
    rw [if_pos (by omega), if_pos (by omega), if_pos (by simp; omega), wrap_small (by omega) (by omega)]
    have e : (l.take i ++ List.replicate (l.length - i) 0).set ((i : Int)).toNat (rd l i) = l.take (i + 1) ++ List.replicate (l.length - (i + 1)) 0 := by
      rw [Int.toNat_natCast, List.set_append_right _ _ (by simp; omega), List.length_take, Nat.min_eq_left (by omega), Nat.sub_self]
      obtain ⟨m, hm⟩ : ∃ m, l.length - i = m + 1 := ⟨l.length - i - 1, by omega⟩
      have e1 : rd l i = l[i] := by simp [rd, List.getD_eq_getElem?_getD, List.getElem?_eq_getElem hlt]
      rw [hm, List.replicate_succ, List.set_cons_zero, List.take_succ_eq_append_getElem hlt, show l.length - (i + 1) = m by omega, e1, List.append_assoc, List.singleton_append]
    rw [e]
    have h := ih k (i + 1) (by omega) (by omega) (by omega)
    rw [show ((i : Int) + 1) = ((i + 1 : Nat) : Int) by omega]
    exact h
theorem toIntS_f (l : List Int) (hl : l.length ≤ 35184372088832) : laws_toIntS.f (l.length + 1) l = some l := by
  unfold laws_toIntS.f
  rw [if_pos (by omega), if_pos (by omega)]
  have h := toIntS_l0 l hl l.length (l.length + 1) 0 (by omega) (by omega) (by omega)
  simpa using h
/-- A new slice reads so: what a function that makes memory hands back. -/
def NewI (w : World) (base : Nat) (v : Value) (l : List Int) : Prop := Kd.R (Kd.int .i64) 3 w base (fun _ => True) v l
theorem NewI_reads {w : World} {base : Nat} {v : Value} {l : List Int} (h : NewI w base v l) : ∃ A c, v = .slice A l.length c ∧ l.length ≤ c ∧ CI w A l := Kd.R_reads h
theorem NewI_below {w w1 : World} {base : Nat} {v : Value} {l : List Int} (h : NewI w base v l) (hb : Below w.heap.size w w1) : NewI w1 base v l := Kd.R_below h hb
theorem NewI_old {w : World} {base : Nat} {v : Value} {l : List Int} (h : NewI w base v l) {p : Addr} (hp : p.block < base) (u : Value) : NewI (w.setCell p u) base v l :=
  Kd.R_mono (Kd.R_far (Kd.R_bound h) (fun k hk => by have := hk.2.1; omega) u) (fun _ _ => trivial)
theorem NewI_lower {w : World} {base base' : Nat} {v : Value} {l : List Int} (h : NewI w base v l) (hb : base' ≤ base) : NewI w base' v l := Kd.R_lower h hb
theorem toIntS_calls (A : Option Addr) (c : Nat) (l : List Int) (w : World) (hC : CI w A l) (hc : l.length ≤ c) (hl : l.length ≤ 35184372088832) :
    Calls Tryd.prog 39 #[.slice A l.length c] w fun e w' => ∃ v : Value, e = .returned v ∧ NewI w' w.heap.size v l ∧ Below w.heap.size w w' :=
  laws_toIntS.calls (l.length + 1) A c l l w hC hc (toIntS_f l hl)

theorem eqIntS_l0 (a b : List Int) (hl : a.length = b.length) (hm : a.length ≤ 9223372036854775807) : ∀ (d k i : Nat), a.length - i = d → i ≤ a.length → d < k →
    laws_eqIntS.l0 k a b i = some (decide (a.drop i = b.drop i)) := by
  intro d
  induction d with
  | zero =>
    intro k i hd hi hk
    obtain ⟨k, rfl⟩ : ∃ m, k = m + 1 := ⟨k - 1, by omega⟩
    simp only [laws_eqIntS.l0]
    rw [if_neg (by omega), List.drop_of_length_le (by omega), List.drop_of_length_le (by omega)]
    simp
  | succ d ih =>
    intro k i hd hi hk
    obtain ⟨k, rfl⟩ : ∃ m, k = m + 1 := ⟨k - 1, by omega⟩
    have h1 : i < a.length := by omega
    have h2 : i < b.length := by omega
    simp only [laws_eqIntS.l0]
    rw [if_pos (by omega), if_pos (by omega), if_pos (by omega)]
    have e1 : rd a i = a[i] := by simp [rd, List.getD_eq_getElem?_getD, List.getElem?_eq_getElem h1]
    have e2 : rd b i = b[i] := by simp [rd, List.getD_eq_getElem?_getD, List.getElem?_eq_getElem h2]
    rw [e1, e2, List.drop_eq_getElem_cons h1, List.drop_eq_getElem_cons h2]
    by_cases h : a[i] = b[i]
    · rw [if_pos h, wrap_small (by omega) (by omega), show ((i : Int) + 1) = ((i + 1 : Nat) : Int) by omega, ih k (i + 1) (by omega) (by omega) (by omega), h]
      simp only [List.cons.injEq, true_and]
    · rw [if_neg h]
      simp only [List.cons.injEq, h, false_and, decide_false]
theorem eqIntS_f (a b : List Int) (hm : a.length ≤ 9223372036854775807) : laws_eqIntS.f (a.length + 1) a b = some (decide (a = b)) := by
  unfold laws_eqIntS.f
  by_cases h : a.length = b.length
  · rw [if_pos (by omega)]
    have h2 := eqIntS_l0 a b h hm a.length (a.length + 1) 0 (by omega) (by omega) (by omega)
    simpa using h2
  · rw [if_neg (by omega)]
    have : a ≠ b := fun e => h (by rw [e])
    simp [this]
theorem eqIntS_calls (A : Option Addr) (c : Nat) (a : List Int) (B : Option Addr) (c1 : Nat) (b : List Int) (w : World) (ha : CI w A a) (hc : a.length ≤ c) (hb : CI w B b) (hc1 : b.length ≤ c1) :
    Calls Tryd.prog 40 #[.slice A a.length c, .slice B b.length c1] w fun e w' => e = .returned (.bool (decide (a = b))) ∧ Below w.heap.size w w' :=
  (laws_eqIntS.calls (a.length + 1) A c a B c1 b _ w ha hc hb hc1 (eqIntS_f a b ha.2.1)).mono fun e w' h => ⟨h.1, h.2.below⟩

/-- What is left of a budget. -/
def szB (n left : Int) : Int := if left - n < 0 then -1 else left - n
theorem szIntS_f (l : List Int) (a : Int) (h0 : -1 ≤ a) (h1 : a ≤ 9223372036854775807) (hm : l.length ≤ 9223372036854775807) : laws_szIntS.f l a = some (szB l.length a) := by
  unfold laws_szIntS.f szB
  rw [wrap_small (by omega) (by omega)]
  split <;> rfl
theorem szIntS_calls (A : Option Addr) (c : Nat) (l : List Int) (a : Int) (w : World) (hC : CI w A l) (hc : l.length ≤ c) (h0 : -1 ≤ a) (h1 : a ≤ 9223372036854775807) :
    Calls Tryd.prog 38 #[.slice A l.length c, .int .i64 a] w fun e w' => e = .returned (.int .i64 (szB l.length a)) ∧ Below w.heap.size w w' :=
  (laws_szIntS.calls A c l a _ w hC hc (szIntS_f l a h0 h1 hC.2.1)).mono fun e w' h => ⟨h.1, h.2.below⟩
end Go.Proofs.YtajdjoggflagdaaDoor.T
