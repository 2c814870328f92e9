import Derived.Deep.Slices
import Derived.Deep.Fields
import Derived.Lib.SmallJoins
import Derived.WideShapes
import Derived.DataReads
import Derived.ChangeArms
import Derived.Test.YtcefiblpnegepaaQAByq
import Derived.Test.YtcefiblpnegepaaQAWMore
import Derived.Test.YtcefiblpnegepaaQASx
import Derived.Test.YtcefiblpnegepaaQAPrNew
import Derived.Test.YtcefiblpnegepaaQAOks
import Derived.Test.YtcefiblpnegepaaQALogP
import Derived.Test.YtcefiblpnegepaaQAPrLO2
namespace Go.Proofs.Ytcefiblpnegepaa.T
open Go.RowKit Go.PW Go.WideShapes Go.ChangeShapes Go.Deep
set_option linter.unusedVariables false
def Xhz {α : Type} (P : Program) (t : TypeId) (d : Kd α) (good : α → Prop) : Prop :=
  ∀ {H : Type} {enc : TypeId × Value → H} {w : World} {base : Nat} {sp : Nat → Bool} {held : Bool} {fuel : Nat} {cs : List Value} {x : DataW H × List MemPlace},
    DataW.trod enc P w base sp held fuel t cs = some x → ∃ a, d.K w a cs ∧ good a
variable {P : Program}
theorem Xh0 {t : TypeId} (ht : P.underlying t = some (.int .u8)) : Xhz P t (Kd.int .u8) (fun x => 0 ≤ x ∧ x ≤ 255) := by
  intro H enc w base sp held fuel cs x h; obtain ⟨n, rfl, _, hw⟩ := DataW.trod_int ht h; refine ⟨n, rfl, ?_⟩
  simpa [Lit.wf, IntKind.min, IntKind.max, IntKind.signed, IntKind.bits] using hw
theorem XaY {α : Type} {d : Kd α} {good : α → Prop} {t e : TypeId} (ht : P.underlying t = some (.slice e)) (hs : P.cellsOf e = d.sz) (he : Xhz P e d good) :
    Xhz P t (Kd.slice e d) (fun l => ∀ x ∈ l, good x) := by
  intro H enc w base sp held fuel cs x h
  rcases open_slice ht h with ⟨rfl, _⟩ | ⟨a, len, cap, m, n, D, Pl, rfl, _, hl, hm, hmm, _, hi⟩
  · exact ⟨[], ⟨none, 0, rfl, Nat.le_refl _, rfl, by simp, fun h => absurd h (by simp)⟩, fun x hx => absurd hx (by simp)⟩
  · have hlm : len ≤ m := by rw [hmm]; split <;> omega
    have key : ∀ i, i < len → ∃ y, good y ∧ ∃ c, c.length = d.sz ∧ d.K w y c ∧ ∀ j u, c[j]? = some u → w.cell? (a.add (i * d.sz + j)) = some u := by
      intro i hil; obtain ⟨c, hc, ht'⟩ := hi i (by omega); obtain ⟨y, hy, hg⟩ := he ht'; obtain ⟨_, hcl, hat⟩ := World.cells?_some hc; refine ⟨y, hg, c, by rw [hcl, hs], hy, fun j u hu => ?_⟩; have hjl : j < c.length := (List.getElem?_eq_some_iff.1 hu).1; have h1 := hat j (by omega); rw [hu, hs, Go.Deep.add_add] at h1; exact h1
    have build : ∀ k, k ≤ len → ∃ xs : List α, xs.length = k ∧ (∀ x ∈ xs, good x) ∧ ∀ j p, xs[j]? = some p → ∃ c, c.length = d.sz ∧ d.K w p c ∧ ∀ i u, c[i]? = some u → w.cell? (a.add (j * d.sz + i)) = some u := by
      intro k
      induction k with
      | zero => exact fun _ => ⟨[], rfl, fun x hx => absurd hx (by simp), fun j p hj => absurd hj (by simp)⟩
      | succ k ih =>
        intro hk; obtain ⟨xs, h1, h2, h3⟩ := ih (by omega); obtain ⟨y, hg, hy⟩ := key k (by omega); refine ⟨xs ++ [y], by simp [h1], ?_, fun j p hj => ?_⟩
        · intro x hx
          rcases List.mem_append.1 hx with hx | hx
          · exact h2 x hx
          · rw [List.mem_singleton.1 hx]; exact hg
        · rcases Nat.lt_or_ge j xs.length with hjl | hjl
          · rw [List.getElem?_append_left hjl] at hj
            exact h3 j p hj
          · have : j = k := by
              have := (List.getElem?_eq_some_iff.1 hj).1
              simp at this
              omega
            subst this; rw [List.getElem?_append_right (by omega), h1] at hj
            simp at hj
            subst hj; exact hy
    obtain ⟨xs, h1, h2, h3⟩ := build len (Nat.le_refl _); refine ⟨xs, ⟨some a, cap, by rw [h1], by omega, rfl, by unfold maxLen at hm; omega, fun _ => ⟨a, rfl, h3⟩⟩, h2⟩
theorem GA {t e : TypeId} (ht : P.underlying t = some (.slice e)) (he : P.underlying e = some (.int .u8)) (hs : P.cellsOf e = 1)
    {H : Type} {enc : TypeId × Value → H} {w : World} {base b0 : Nat} {r : Reach} {sp : Nat → Bool} {held : Bool} {v : Value} {d : DataW H} {p : List MemPlace}
    (hv : Value.okWide P w r b0 t v) (h : DataW.Trod enc P w base sp held t v d p) :
    ∃ (A : Option Addr) (l : List Int) (c : Nat), v = .slice A l.length c ∧ l.length ≤ c ∧ Kd.C (Kd.int .u8) w A l.length l ∧ ∀ x ∈ l, 0 ≤ x ∧ x ≤ 255 := by
  obtain ⟨a, len, cap, rfl⟩ := okWide_slice ht hv; obtain ⟨fuel, hf⟩ := h; obtain ⟨l, ⟨A, c, hcs, hl, hC⟩, hg⟩ := XaY (d := Kd.int .u8) ht hs (Xh0 he) hf
  simp [Value.cells] at hcs
  obtain ⟨rfl, rfl, rfl⟩ := hcs; exact ⟨_, l, _, rfl, hl, hC, hg⟩
end Go.Proofs.Ytcefiblpnegepaa.T
namespace Go.Proofs.Ytcefiblpnegepaa.T
open Go.RowKit Go.PW Go.Proofs.Ytcefiblpnegepaa.Pr
set_option linter.unusedSimpArgs false
set_option linter.unusedVariables false
theorem WJ (t : Int) : ∀ l : List S41, 0 ≤ Fy t l ∧ Fy t l ≤ (l.length : Int)
  | [] => by simp [Fy]
  | x :: r => by
    have ih := WJ t r
    unfold Fy
    split
    · split <;> simp <;> omega
    · simp
      omega
theorem Mi (l : List S41) (t : Int) : 0 ≤ lastB l t := (WJ t l.reverse).1
theorem VK (l : List S41) (t : Int) : lastB l t ≤ (l.length : Int) := by
  have h := (WJ t l.reverse).2; rw [List.length_reverse] at h; exact h
theorem Di {l : List S41} (h : YW l = true) (i : Nat) (hi : i < l.length) : 0 ≤ (Xa l (i : Int)).f6 ∧ (Xa l (i : Int)).f6 ≤ (i : Int) := by
  unfold YW at h
  simp only [Bool.and_eq_true, List.all_eq_true] at h; have h2 := h.2 i (by simpa using hi)
  unfold ZX at h2
  simp only [Bool.and_eq_true, beq_iff_eq] at h2; have e := h2.1.1.2; rw [e]; have b := VK (l.take i) (Xa l (i : Int)).f1; rw [List.length_take] at b; exact ⟨Mi _ _, by omega⟩
theorem G9 {l : List S41} (h : YW l = true) : l.length ≤ 150 := by
  unfold YW at h
  simp only [Bool.and_eq_true, decide_eq_true_eq] at h; exact h.1
def chainB (l : List S41) : Nat → Int → List Int
  | 0, _ => []
  | n + 1, x => if 0 < x then x :: chainB l n (Xa l (x - 1)).f6 else []
theorem ER (l : List S41) : ∀ n x, (chainB l n x).length ≤ n
  | 0, _ => by simp [chainB]
  | n + 1, x => by
    have := ER l n (Xa l (x - 1)).f6
    unfold chainB
    split <;> simp <;> omega
end Go.Proofs.Ytcefiblpnegepaa.T
namespace Go.Proofs.Ytcefiblpnegepaa.T
open Go.RowKit Go.PW Go.Proofs.Ytcefiblpnegepaa.Pr
set_option linter.unusedSimpArgs false
set_option linter.unusedVariables false
def G5 (l : List S41) : Nat → Int → List Int
  | 0, _ => []
  | d + 1, t => if 0 < lastB l t then t :: G5 l d (t + 1) else G5 l d (t + 1)
theorem Ii (l : List S41) : ∀ d t, (G5 l d t).length ≤ d
  | 0, _ => by simp [G5]
  | d + 1, t => by
    have := Ii l d (t + 1)
    unfold G5
    split <;> simp <;> omega
theorem WM (l : List S41) (hl : l.length ≤ 9223372036854775807) : ∀ (d k : Nat) (t : Int) (acc : List Int), t + (d : Int) = 4 → l.length + d < k → acc.length + d ≤ 10 → d ≤ 3 → XT.l0 k l acc t = some (acc ++ G5 l d t)
  | 0, k + 1, t, acc, h0, _, _, _ => by
    rw [XT.l0, if_neg (by omega)]
    simp [G5]
  | d + 1, k + 1, t, acc, h0, hk, ha, hd => by
    rw [XT.l0, G5, if_pos (by omega), NI l t hl k (by omega), T.wrap_small (by omega) (by omega)]; simp only [Option.bind_some]
    by_cases hx : 0 < lastB l t
    · rw [if_pos hx, if_pos hx, if_pos (by omega), WM l hl d k _ _ (by omega) (by omega) zb153 (by omega)]
      simp
    · rw [if_neg hx, if_neg hx, WM l hl d k _ _ (by omega) (by omega) (by omega) (by omega)]
theorem WN (l : List S41) (hl : l.length ≤ 9223372036854775807) : ∀ (d k : Nat) (t : Int) (acc : List Int), t + (d : Int) = 4 → l.length + d < k → acc.length + d ≤ 10 → d ≤ 3 → Z7.l0 k l acc t = some (acc ++ G5 l d t)
  | 0, k + 1, t, acc, h0, _, _, _ => by
    rw [Z7.l0, if_neg (by omega)]
    simp [G5]
  | d + 1, k + 1, t, acc, h0, hk, ha, hd => by
    have hb := Mi l t; rw [Z7.l0, G5, if_pos (by omega), T.wrap_small (by omega) (by omega)]
    unfold Jv.f
    simp only [Option.bind_some]
    by_cases hx : 0 < lastB l t
    · rw [if_neg (by omega), if_pos hx, if_pos (by omega), WN l hl d k _ _ (by omega) (by omega) zb153 (by omega)]
      simp
    · rw [if_pos (by omega), if_neg hx, WN l hl d k _ _ (by omega) (by omega) (by omega) (by omega)]
def Vw (l : List S41) : List Int := if YW l = true then G5 l 3 1 else []
theorem Pg (l : List S41) : (Vw l).length ≤ 3 := by
  unfold Vw
  split
  · exact Ii _ _ _
  · simp
theorem Nt (l : List S41) (hl : l.length ≤ 9223372036854775807) (k : Nat) (hk : 3 * l.length + 4 < k) : XT.f k l = some (Vw l) := by
  unfold XT.f Vw
  rw [VB l hl k hk]; simp only [Option.bind_some]
  by_cases ok : YW l = true
  · rw [if_pos ok, if_pos ok, WM l hl 3 k 1 _ (by omega) (by omega) (by simp) (by omega)]
    simp
  · rw [if_neg ok, if_neg ok]
theorem PN (l : List S41) (hl : l.length ≤ 9223372036854775807) (k : Nat) (hk : 3 * l.length + 4 < k) : Zj.f k l = some (Vw l) := by
  unfold Zj.f Vw
  rw [Vb l hl k hk]; simp only [Option.bind_some]
  by_cases ok : YW l = true
  · rw [if_pos ok, if_pos ok]
    unfold Z7.f
    rw [WN l hl 3 k 1 _ (by omega) (by omega) (by simp) (by omega)]
    simp
  · rw [if_neg ok, if_neg ok]
end Go.Proofs.Ytcefiblpnegepaa.T
