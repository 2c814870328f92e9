import Derived.Deep.Slices
import Derived.Deep.Fields
import Derived.Lib.SmallJoins
import Derived.WideShapes
import Derived.DataReads
import Derived.ChangeArms
import Derived.Test.YtcefiblpnegepaaQWMore
import Derived.Test.YtcefiblpnegepaaQPrK
import Derived.Test.YtcefiblpnegepaaQPrLogA
import Derived.Test.YtcefiblpnegepaaQRd
import Derived.Test.YtcefiblpnegepaaQLogP
namespace Go.Proofs.Ytcefiblpnegepaa.T
open Go.RowKit Go.Proofs.YtcefiblpnegepaaW.PrintWords Go.WideShapes Go.ChangeShapes Go.Deep
set_option linter.unusedVariables false
def Opens {α : Type} (P : Program) (t : TypeId) (d : Kd α) (good : α → Prop) : Prop :=
  ∀ {H : Type} {enc : TypeId × Value → H} {w : World} {base : Nat} {sp : Nat → Bool} {held : Bool} {fuel : Nat} {cs : List Value} {x : DataW H × List MemPlace},
    DataW.trod enc P w base sp held fuel t cs = some x → ∃ a, d.K w a cs ∧ good a
variable {P : Program}
theorem opens_u8 {t : TypeId} (ht : P.underlying t = some (.int .u8)) : Opens P t (Kd.int .u8) (fun x => 0 ≤ x ∧ x ≤ 255) := by
  intro H enc w base sp held fuel cs x h; obtain ⟨n, rfl, _, hw⟩ := DataW.trod_int ht h; refine ⟨n, rfl, ?_⟩
  simpa [Lit.wf, IntKind.min, IntKind.max, IntKind.signed, IntKind.bits] using hw
theorem opens_slice {α : Type} {d : Kd α} {good : α → Prop} {t e : TypeId} (ht : P.underlying t = some (.slice e)) (hs : P.cellsOf e = d.sz) (he : Opens P e d good) :
    Opens P t (Kd.slice e d) (fun l => ∀ x ∈ l, good x) := by
  intro H enc w base sp held fuel cs x h
  rcases open_slice ht h with ⟨rfl, _⟩ | ⟨a, len, cap, m, n, D, Pl, rfl, _, hl, hm, hmm, _, hi⟩
  · exact ⟨[], ⟨none, 0, rfl, Nat.le_refl _, rfl, by simp, fun h => absurd h (by simp)⟩, fun x hx => absurd hx (by simp)⟩
  · have hlm : len ≤ m := by rw [hmm]; split <;> omega
    have key : ∀ i, i < len → ∃ y, good y ∧ ∃ c, c.length = d.sz ∧ d.K w y c ∧ ∀ j u, c[j]? = some u → w.cell? (a.add (i * d.sz + j)) = some u := by
      intro i hil; obtain ⟨c, hc, ht'⟩ := hi i (by omega); obtain ⟨y, hy, hg⟩ := he ht'; obtain ⟨_, hcl, hat⟩ := World.cells?_some hc; refine ⟨y, hg, c, by rw [hcl, hs], hy, fun j u hu => ?_⟩; have hjl : j < c.length := (List.getElem?_eq_some_iff.1 hu).1; have h1 := hat j (by omega); rw [hu, hs, Go.Deep.add_add] at h1; exact h1
    have build : ∀ k, k ≤ len → ∃ xs : List α, xs.length = k ∧ (∀ x ∈ xs, good x) ∧ ∀ j p, xs[j]? = some p → ∃ c, c.length = d.sz ∧ d.K w p c ∧ ∀ i u, c[i]? = some u → w.cell? (a.add (j * d.sz + i)) = some u := by
      intro k
      induction k with
      | zero => exact fun _ => ⟨[], rfl, fun x hx => absurd hx (by simp), fun j p hj => absurd hj (by simp)⟩
      | succ k ih =>
        intro hk; obtain ⟨xs, h1, h2, h3⟩ := ih (by omega); obtain ⟨y, hg, hy⟩ := key k (by omega); refine ⟨xs ++ [y], by simp [h1], ?_, fun j p hj => ?_⟩
        · intro x hx
          rcases List.mem_append.1 hx with hx | hx
          · exact h2 x hx
          · rw [List.mem_singleton.1 hx]; exact hg
        · rcases Nat.lt_or_ge j xs.length with hjl | hjl
          · rw [List.getElem?_append_left hjl] at hj
            exact h3 j p hj
          · have : j = k := by
              have := (List.getElem?_eq_some_iff.1 hj).1
              simp at this
              omega
            subst this; rw [List.getElem?_append_right (by omega), h1] at hj
            simp at hj
            subst hj; exact hy
    obtain ⟨xs, h1, h2, h3⟩ := build len (Nat.le_refl _); refine ⟨xs, ⟨some a, cap, by rw [h1], by omega, rfl, by unfold maxLen at hm; omega, fun _ => ⟨a, rfl, h3⟩⟩, h2⟩
theorem open_bytes {t e : TypeId} (ht : P.underlying t = some (.slice e)) (he : P.underlying e = some (.int .u8)) (hs : P.cellsOf e = 1)
    {H : Type} {enc : TypeId × Value → H} {w : World} {base b0 : Nat} {r : Reach} {sp : Nat → Bool} {held : Bool} {v : Value} {d : DataW H} {p : List MemPlace}
    (hv : Value.okWide P w r b0 t v) (h : DataW.Trod enc P w base sp held t v d p) :
    ∃ (A : Option Addr) (l : List Int) (c : Nat), v = .slice A l.length c ∧ l.length ≤ c ∧ Kd.C (Kd.int .u8) w A l.length l ∧ ∀ x ∈ l, 0 ≤ x ∧ x ≤ 255 := by
  obtain ⟨a, len, cap, rfl⟩ := okWide_slice ht hv; obtain ⟨fuel, hf⟩ := h; obtain ⟨l, ⟨A, c, hcs, hl, hC⟩, hg⟩ := opens_slice (d := Kd.int .u8) ht hs (opens_u8 he) hf
  simp [Value.cells] at hcs
  obtain ⟨rfl, rfl, rfl⟩ := hcs; exact ⟨_, l, _, rfl, hl, hC, hg⟩
end Go.Proofs.Ytcefiblpnegepaa.T
namespace Go.Proofs.Ytcefiblpnegepaa.T
open Go.RowKit Go.Proofs.YtcefiblpnegepaaW.PrintWords Go.Proofs.Ytcefiblpnegepaa.Pr
set_option linter.unusedSimpArgs false
set_option linter.unusedVariables false
theorem lastB_bd (t : Int) : ∀ l : List S41, 0 ≤ lastR t l ∧ lastR t l ≤ (l.length : Int)
  | [] => by simp [lastR]
  | x :: r => by
    have ih := lastB_bd t r
    unfold lastR
    split
    · split <;> simp <;> omega
    · simp
      omega
theorem lastB_0 (l : List S41) (t : Int) : 0 ≤ lastB l t := (lastB_bd t l.reverse).1
theorem lastB_n (l : List S41) (t : Int) : lastB l t ≤ (l.length : Int) := by
  have h := (lastB_bd t l.reverse).2; rw [List.length_reverse] at h; exact h
theorem prev_bd {l : List S41} (h : logOkB l = true) (i : Nat) (hi : i < l.length) : 0 ≤ (rd_T41 l (i : Int)).f6 ∧ (rd_T41 l (i : Int)).f6 ≤ (i : Int) := by
  unfold logOkB at h
  simp only [Bool.and_eq_true, List.all_eq_true] at h; have h2 := h.2 i (by simpa using hi)
  unfold okAt at h2
  simp only [Bool.and_eq_true, beq_iff_eq] at h2; have e := h2.1.1.2; rw [e]; have b := lastB_n (l.take i) (rd_T41 l (i : Int)).f1; rw [List.length_take] at b; exact ⟨lastB_0 _ _, by omega⟩
theorem logOk_len {l : List S41} (h : logOkB l = true) : l.length ≤ 150 := by
  unfold logOkB at h
  simp only [Bool.and_eq_true, decide_eq_true_eq] at h; exact h.1
end Go.Proofs.Ytcefiblpnegepaa.T
