import Derived.Deep.Slices
import Derived.Deep.Fields
import Derived.Lib.SmallJoins
import Derived.WideShapes
import Derived.DataReads
import Derived.ChangeArms
import Derived.Test.YtcefiblpnegepaaQBByq
import Derived.Test.YtcefiblpnegepaaQBWMore
import Derived.Test.YtcefiblpnegepaaQBSx
import Derived.Test.YtcefiblpnegepaaQBPrNew
import Derived.Test.YtcefiblpnegepaaQBOks
import Derived.Test.YtcefiblpnegepaaQBPrLO2
import Derived.Test.YtcefiblpnegepaaQBPrLC2
namespace Go.Proofs.Ytcefiblpnegepaa.T
open Go.RowKit Go.PW Go.WideShapes Go.ChangeShapes Go.Deep
set_option linter.unusedVariables false
def XgT {α : Type} (P : Program) (t : TypeId) (d : Kd α) (good : α → Prop) : Prop :=
  ∀ {H : Type} {enc : TypeId × Value → H} {w : World} {base : Nat} {sp : Nat → Bool} {held : Bool} {fuel : Nat} {cs : List Value} {x : DataW H × List MemPlace},
    DataW.trod enc P w base sp held fuel t cs = some x → ∃ a, d.K w a cs ∧ good a
variable {P : Program}
theorem XgU {t : TypeId} (ht : P.underlying t = some (.int .u8)) : XgT P t (Kd.int .u8) (fun x => 0 ≤ x ∧ x ≤ 255) := by
  intro H enc w base sp held fuel cs x h; obtain ⟨n, rfl, _, hw⟩ := DataW.trod_int ht h; refine ⟨n, rfl, ?_⟩
  simpa [Lit.wf, IntKind.min, IntKind.max, IntKind.signed, IntKind.bits] using hw
theorem Xa1 {α : Type} {d : Kd α} {good : α → Prop} {t e : TypeId} (ht : P.underlying t = some (.slice e)) (hs : P.cellsOf e = d.sz) (he : XgT P e d good) :
    XgT P t (Kd.slice e d) (fun l => ∀ x ∈ l, good x) := by
  intro H enc w base sp held fuel cs x h
  rcases open_slice ht h with ⟨rfl, _⟩ | ⟨a, len, cap, m, n, D, Pl, rfl, _, hl, hm, hmm, _, hi⟩
  · exact ⟨[], ⟨none, 0, rfl, Nat.le_refl _, rfl, by simp, fun h => absurd h (by simp)⟩, fun x hx => absurd hx (by simp)⟩
  · have hlm : len ≤ m := by rw [hmm]; split <;> omega
    have key : ∀ i, i < len → ∃ y, good y ∧ ∃ c, c.length = d.sz ∧ d.K w y c ∧ ∀ j u, c[j]? = some u → w.cell? (a.add (i * d.sz + j)) = some u := by
      intro i hil; obtain ⟨c, hc, ht'⟩ := hi i (by omega); obtain ⟨y, hy, hg⟩ := he ht'; obtain ⟨_, hcl, hat⟩ := World.cells?_some hc; refine ⟨y, hg, c, by rw [hcl, hs], hy, fun j u hu => ?_⟩; have hjl : j < c.length := (List.getElem?_eq_some_iff.1 hu).1; have h1 := hat j (by omega); rw [hu, hs, Go.Deep.add_add] at h1; exact h1
    have build : ∀ k, k ≤ len → ∃ xs : List α, xs.length = k ∧ (∀ x ∈ xs, good x) ∧ ∀ j p, xs[j]? = some p → ∃ c, c.length = d.sz ∧ d.K w p c ∧ ∀ i u, c[i]? = some u → w.cell? (a.add (j * d.sz + i)) = some u := by
      intro k
      induction k with
      | zero => exact fun _ => ⟨[], rfl, fun x hx => absurd hx (by simp), fun j p hj => absurd hj (by simp)⟩
      | succ k ih =>
        intro hk; obtain ⟨xs, h1, h2, h3⟩ := ih (by omega); obtain ⟨y, hg, hy⟩ := key k (by omega); refine ⟨xs ++ [y], by simp [h1], ?_, fun j p hj => ?_⟩
        · intro x hx
          rcases List.mem_append.1 hx with hx | hx
          · exact h2 x hx
          · rw [List.mem_singleton.1 hx]; exact hg
        · rcases Nat.lt_or_ge j xs.length with hjl | hjl
          · rw [List.getElem?_append_left hjl] at hj
            exact h3 j p hj
          · have : j = k := by
              have := (List.getElem?_eq_some_iff.1 hj).1
              simp at this
              omega
            subst this; rw [List.getElem?_append_right (by omega), h1] at hj
            simp at hj
            subst hj; exact hy
    obtain ⟨xs, h1, h2, h3⟩ := build len (Nat.le_refl _); refine ⟨xs, ⟨some a, cap, by rw [h1], by omega, rfl, by unfold maxLen at hm; omega, fun _ => ⟨a, rfl, h3⟩⟩, h2⟩
theorem MC {t e : TypeId} (ht : P.underlying t = some (.slice e)) (he : P.underlying e = some (.int .u8)) (hs : P.cellsOf e = 1)
    {H : Type} {enc : TypeId × Value → H} {w : World} {base b0 : Nat} {r : Reach} {sp : Nat → Bool} {held : Bool} {v : Value} {d : DataW H} {p : List MemPlace}
    (hv : Value.okWide P w r b0 t v) (h : DataW.Trod enc P w base sp held t v d p) :
    ∃ (A : Option Addr) (l : List Int) (c : Nat), v = .slice A l.length c ∧ l.length ≤ c ∧ Kd.C (Kd.int .u8) w A l.length l ∧ ∀ x ∈ l, 0 ≤ x ∧ x ≤ 255 := by
  obtain ⟨a, len, cap, rfl⟩ := okWide_slice ht hv; obtain ⟨fuel, hf⟩ := h; obtain ⟨l, ⟨A, c, hcs, hl, hC⟩, hg⟩ := Xa1 (d := Kd.int .u8) ht hs (XgU he) hf
  simp [Value.cells] at hcs
  obtain ⟨rfl, rfl, rfl⟩ := hcs; exact ⟨_, l, _, rfl, hl, hC, hg⟩
end Go.Proofs.Ytcefiblpnegepaa.T
namespace Go.Proofs.Ytcefiblpnegepaa.T
open Go.RowKit Go.PW Go.Proofs.Ytcefiblpnegepaa.Pr
set_option linter.unusedSimpArgs false
set_option linter.unusedVariables false
theorem KI (t : Int) : ∀ l : List S41, 0 ≤ Wn t l ∧ Wn t l ≤ (l.length : Int)
  | [] => by simp [Wn]
  | x :: r => by
    have ih := KI t r
    unfold Wn
    split
    · split <;> simp <;> omega
    · simp
      omega
theorem Dc (l : List S41) (t : Int) : 0 ≤ lastB l t := (KI t l.reverse).1
theorem Jq (l : List S41) (t : Int) : lastB l t ≤ (l.length : Int) := by
  have h := (KI t l.reverse).2; rw [List.length_reverse] at h; exact h
theorem Vq {l : List S41} (h : Yz l = true) (i : Nat) (hi : i < l.length) : 0 ≤ (Xa l (i : Int)).f6 ∧ (Xa l (i : Int)).f6 ≤ (i : Int) := by
  unfold Yz at h
  simp only [Bool.and_eq_true, List.all_eq_true] at h; have h2 := h.2 i (by simpa using hi)
  unfold ZT at h2
  simp only [Bool.and_eq_true, beq_iff_eq] at h2; have e := h2.1.1.2; rw [e]; have b := Jq (l.take i) (Xa l (i : Int)).f1; rw [List.length_take] at b; exact ⟨Dc _ _, by omega⟩
theorem VN {l : List S41} (h : Yz l = true) : l.length ≤ 150 := by
  unfold Yz at h
  simp only [Bool.and_eq_true, decide_eq_true_eq] at h; exact h.1
def chainB (l : List S41) : Nat → Int → List Int
  | 0, _ => []
  | n + 1, x => if 0 < x then x :: chainB l n (Xa l (x - 1)).f6 else []
theorem Sk (l : List S41) : ∀ n x, (chainB l n x).length ≤ n
  | 0, _ => by simp [chainB]
  | n + 1, x => by
    have := Sk l n (Xa l (x - 1)).f6
    unfold chainB
    split <;> simp <;> omega
end Go.Proofs.Ytcefiblpnegepaa.T
namespace Go.Proofs.Ytcefiblpnegepaa.T
open Go.RowKit Go.PW Go.Proofs.Ytcefiblpnegepaa.Pr
set_option linter.unusedSimpArgs false
set_option linter.unusedVariables false
def O4 (l : List S41) : Nat → Int → List Int
  | 0, _ => []
  | d + 1, t => if 0 < lastB l t then t :: O4 l d (t + 1) else O4 l d (t + 1)
theorem Wp (l : List S41) (hl : l.length ≤ 9223372036854775807) : ∀ (d k : Nat) (t : Int) (acc : List Int), t + (d : Int) = 4 → l.length + d < k → acc.length + d ≤ 10 → d ≤ 3 → YB.l0 k l acc t = some (acc ++ O4 l d t)
  | 0, k + 1, t, acc, h0, _, _, _ => by
    rw [YB.l0, if_neg (by omega)]
    simp [O4]
  | d + 1, k + 1, t, acc, h0, hk, ha, hd => by
    rw [YB.l0, O4, if_pos (by omega), NJ l t hl k (by omega), T.wrap_small (by omega) (by omega)]; simp only [Option.bind_some]
    by_cases hx : 0 < lastB l t
    · rw [if_pos hx, if_pos hx, if_pos (by omega), Wp l hl d k _ _ (by omega) (by omega) zb151 (by omega)]
      simp
    · rw [if_neg hx, if_neg hx, Wp l hl d k _ _ (by omega) (by omega) (by omega) (by omega)]
def Xde (l : List S41) : List Int := if Yz l = true then O4 l 3 1 else []
theorem ES (l : List S41) (hl : l.length ≤ 9223372036854775807) (k : Nat) (hk : 3 * l.length + 4 < k) : YB.f k l = some (Xde l) := by
  unfold YB.f Xde
  rw [Fq l hl k hk]; simp only [Option.bind_some]
  by_cases ok : Yz l = true
  · rw [if_pos ok, if_pos ok, Wp l hl 3 k 1 _ (by omega) (by omega) (by simp) (by omega)]
    simp
  · rw [if_neg ok, if_neg ok]
end Go.Proofs.Ytcefiblpnegepaa.T
namespace Go.Proofs.Ytcefiblpnegepaa.T
open Go.RowKit Go.PW Go.Proofs.Ytcefiblpnegepaa.Pr
set_option linter.unusedSimpArgs false
set_option linter.unusedVariables false
theorem KO (l : List S41) (ok : Yz l = true) : ∀ (n k : Nat) (x : Int) (acc : List Int), 0 ≤ x → x ≤ (n : Int) → n ≤ l.length → n < k → acc.length + n ≤ 150 → X7.l0 k l acc x = some (acc ++ chainB l n x)
  | 0, k + 1, x, acc, h0, h1, _, _, _ => by
    rw [X7.l0, if_neg (by omega)]
    simp [chainB]
  | n + 1, k + 1, x, acc, h0, h1, hn, hk, ha => by
    rw [X7.l0, chainB]
    by_cases hx : 0 < x
    · have hlen := VN ok
      obtain ⟨j, rfl⟩ : ∃ j : Nat, x = (j : Int) + 1 := ⟨(x - 1).toNat, by omega⟩
      have e : (j : Int) + 1 - 1 = (j : Int) := by omega
      have b := Vq ok j (by omega); rw [if_pos hx, if_pos hx, e, T.wrap_small (by omega) (by omega), if_pos (by omega), if_pos (by omega), if_pos (by omega), KO l ok n k _ _ b.1 (by omega) (by omega) (by omega) zb151]
      simp
    · rw [if_neg hx, if_neg hx]
      simp
theorem KP (l : List S41) (ok : Yz l = true) : ∀ (n k : Nat) (x : Int) (acc : List Int), 0 ≤ x → x ≤ (n : Int) → n ≤ l.length → n < k → acc.length + n ≤ 150 → YD.l0 k l acc x = some (acc ++ chainB l n x)
  | 0, k + 1, x, acc, h0, h1, _, _, _ => by
    rw [YD.l0, if_pos (by omega)]
    simp [chainB]
  | n + 1, k + 1, x, acc, h0, h1, hn, hk, ha => by
    rw [YD.l0, chainB]
    by_cases hx : 0 < x
    · have hlen := VN ok
      obtain ⟨j, rfl⟩ : ∃ j : Nat, x = (j : Int) + 1 := ⟨(x - 1).toNat, by omega⟩
      have e : (j : Int) + 1 - 1 = (j : Int) := by omega
      have b := Vq ok j (by omega); rw [if_neg (by omega), if_pos hx, e, T.wrap_small (by omega) (by omega), if_pos (by omega), if_pos (by omega), if_pos (by omega), KP l ok n k _ _ b.1 (by omega) (by omega) (by omega) zb151]
      simp
    · rw [if_pos (by omega), if_neg hx]
      simp
def JI (l : List S41) (a : Int) : List Int := if Yz l = true then chainB l l.length (lastB l a) else []
theorem MB (l : List S41) (a : Int) : (JI l a).length ≤ l.length := by
  unfold JI
  split
  · exact Sk _ _ _
  · simp
theorem Gt (l : List S41) (a : Int) (hl : l.length ≤ 9223372036854775807) (k : Nat) (hk : 3 * l.length + 4 < k) : X7.f k l a = some (JI l a) := by
  unfold X7.f JI
  rw [Fq l hl k hk]; simp only [Option.bind_some]
  by_cases ok : Yz l = true
  · have hlen := VN ok
    rw [if_pos ok, if_pos ok, NJ l a hl k (by omega)]; simp only [Option.bind_some]; rw [KO l ok l.length k _ _ (Dc _ _) (Jq _ _) (by omega) (by omega) (by simpa using hlen)]
    simp
  · rw [if_neg ok, if_neg ok]
theorem Fe (l : List S41) (a : Int) (hl : l.length ≤ 9223372036854775807) (k : Nat) (hk : 3 * l.length + 4 < k) : XD.f k l a = some (JI l a) := by
  unfold XD.f JI
  rw [Df l hl k hk]; simp only [Option.bind_some]
  by_cases ok : Yz l = true
  · have hlen := VN ok
    rw [if_pos ok, if_pos ok]
    unfold YD.f JQ.f
    simp only [Option.bind_some]; rw [KP l ok l.length k _ _ (Dc _ _) (Jq _ _) (by omega) (by omega) (by simpa using hlen)]
    simp
  · rw [if_neg ok, if_neg ok]
end Go.Proofs.Ytcefiblpnegepaa.T
