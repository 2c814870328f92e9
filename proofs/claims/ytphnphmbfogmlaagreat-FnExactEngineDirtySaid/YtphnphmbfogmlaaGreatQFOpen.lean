import Derived.Deep.Slices
import Derived.Deep.Fields
import Derived.Lib.SmallJoins
import Derived.WideShapes
import Derived.DataReads
import Derived.ChangeArms
import Derived.Test.YtphnphmbfogmlaaGreatQFWMore
namespace Go.Proofs.YtphnphmbfogmlaaGreat.T
open Go.RowKit Go.PW Go.WideShapes Go.ChangeShapes Go.Deep
set_option linter.unusedVariables false
def MS {α : Type} (P : Program) (t : TypeId) (d : Kd α) (good : α → Prop) : Prop :=
 ∀ {H : Type} {enc : TypeId × Value → H} {w : World} {base : Nat} {sp : Nat → Bool} {held : Bool} {fuel : Nat} {cs : List Value} {x : DataW H × List MemPlace},
  DataW.trod enc P w base sp held fuel t cs = some x → ∃ a, d.K w a cs ∧ good a
def I64 (x : Int) : Prop := -9223372036854775808 ≤ x ∧ x ≤ 9223372036854775807
theorem Qx {x : Int} (h : (Lit.int .i64 x).wf = true) : I64 x := by
 have := h
 simp [Lit.wf, IntKind.min, IntKind.max, IntKind.signed, IntKind.bits] at this
 exact this
variable {P : Program}
theorem Su {t : TypeId} (ht : P.underlying t = some (.int .i64)) : MS P t (Kd.int .i64) I64 := by
 intro H enc w base sp held fuel cs x h; obtain ⟨n, rfl, _, hw⟩ := DataW.trod_int ht h; exact ⟨n, rfl, Qx hw⟩
theorem Xfz {t : TypeId} (ht : P.underlying t = some .bool) : MS P t Kd.bool (fun _ => True) := by
 intro H enc w base sp held fuel cs x h; obtain ⟨n, rfl, _⟩ := DataW.trod_bool ht h; exact ⟨n, rfl, trivial⟩
theorem UL {α : Type} {d : Kd α} {good : α → Prop} {t e : TypeId} (ht : P.underlying t = some (.slice e)) (hs : P.cellsOf e = d.sz) (he : MS P e d good) :
 MS P t (Kd.slice e d) (fun l => ∀ x ∈ l, good x) := by
 intro H enc w base sp held fuel cs x h
 rcases open_slice ht h with ⟨rfl, _⟩ | ⟨a, len, cap, m, n, D, Pl, rfl, _, hl, hm, hmm, _, hi⟩
 ·exact ⟨[], ⟨none, 0, rfl, Nat.le_refl _, rfl, by simp, fun h => absurd h (by simp)⟩, fun x hx => absurd hx (by simp)⟩
 ·have hlm : len ≤ m := by rw [hmm]; split <;> omega
  have key : ∀ i, i < len → ∃ y, good y ∧ ∃ c, c.length = d.sz ∧ d.K w y c ∧ ∀ j u, c[j]? = some u → w.cell? (a.add (i * d.sz + j)) = some u := by
   intro i hil; obtain ⟨c, hc, ht'⟩ := hi i (by omega); obtain ⟨y, hy, hg⟩ := he ht'; obtain ⟨_, hcl, hat⟩ := World.cells?_some hc; refine ⟨y, hg, c, by rw [hcl, hs], hy, fun j u hu => ?_⟩; have hjl : j < c.length := (List.getElem?_eq_some_iff.1 hu).1; have h1 := hat j (by omega); rw [hu, hs, Go.Deep.add_add] at h1; exact h1
  have build : ∀ k, k ≤ len → ∃ xs : List α, xs.length = k ∧ (∀ x ∈ xs, good x) ∧ ∀ j p, xs[j]? = some p → ∃ c, c.length = d.sz ∧ d.K w p c ∧ ∀ i u, c[i]? = some u → w.cell? (a.add (j * d.sz + i)) = some u := by
   intro k
   induction k with
   | zero => exact fun _ => ⟨[], rfl, fun x hx => absurd hx (by simp), fun j p hj => absurd hj (by simp)⟩
   | succ k ih =>
    intro hk; obtain ⟨xs, h1, h2, h3⟩ := ih (by omega); obtain ⟨y, hg, hy⟩ := key k (by omega); refine ⟨xs ++ [y], by simp [h1], ?_, fun j p hj => ?_⟩
    ·intro x hx
     rcases List.mem_append.1 hx with hx | hx
     ·exact h2 x hx
     ·rw [List.mem_singleton.1 hx]; exact hg
    ·rcases Nat.lt_or_ge j xs.length with hjl | hjl
     ·rw [List.getElem?_append_left hjl] at hj
      exact h3 j p hj
     ·have : j = k := by
       have := (List.getElem?_eq_some_iff.1 hj).1
       simp at this
       omega
      subst this; rw [List.getElem?_append_right (by omega), h1] at hj
      simp at hj
      subst hj; exact hy
  obtain ⟨xs, h1, h2, h3⟩ := build len (Nat.le_refl _); refine ⟨xs, ⟨some a, cap, by rw [h1], by omega, rfl, by unfold maxLen at hm; omega, fun _ => ⟨a, rfl, h3⟩⟩, h2⟩
theorem O7 {α β γ : Type} {da : Kd α} {db : Kd β} {dc : Kd γ} {ga : α → Prop} {gb : β → Prop} {gc : γ → Prop} {t : TypeId} {f0 f1 f2 : Field} (ht : P.underlying t = some (.struct #[f0, f1, f2]))
 (hC : P.cellsOf t = da.sz + (db.sz + dc.sz)) (o0 : f0.offset = 0) (o1 : f1.offset = da.sz) (o2 : f2.offset = da.sz + db.sz)
 (n0 : P.cellsOf f0.type = da.sz) (n1 : P.cellsOf f1.type = db.sz) (n2 : P.cellsOf f2.type = dc.sz)
 (h0 : MS P f0.type da ga) (h1 : MS P f1.type db gb) (h2 : MS P f2.type dc gc) :
 MS P t (Kd.pair da (Kd.pair db dc)) (fun x => ga x.1 ∧ gb x.2.1 ∧ gc x.2.2) := by
 intro H enc w base sp held fuel cs x h; obtain ⟨xs, n, _, _, hlen, hxl, hg⟩ := DataW.trod_struct ht h; have hx3 : xs.length = 3 := hxl; have e0 := hg 0 f0 rfl; have e1 := hg 1 f1 rfl; have e2 := hg 2 f2 rfl; rw [List.getElem?_eq_getElem (by omega)] at e0 e1 e2; obtain ⟨a, ka, qa⟩ := h0 e0; obtain ⟨b, kb, qb⟩ := h1 e1; obtain ⟨c, kc, qc⟩ := h2 e2; rw [hC] at hlen; refine ⟨(a, b, c), ⟨_, _, ?_, ka, _, _, rfl, kb, kc⟩, qa, qb, qc⟩; rw [o0, o1, o2, n0, n1, n2, List.drop_zero]; have hq : (cs.drop (da.sz + db.sz)).take dc.sz = (cs.drop (da.sz + db.sz)) := List.take_of_length_le (by rw [List.length_drop]; omega); rw [hq, ← List.drop_drop, List.take_append_drop, List.take_append_drop]
theorem PZ {t : TypeId} {fs : Array Field} (ht : P.underlying t = some (.struct fs)) (hone : oneCellFields P fs = true) (hC : P.cellsOf t = fs.size)
 (hall : ∀ (i : Nat) (f : Field), fs[i]? = some f → P.underlying f.type = some (.int .i64)) {H : Type} {enc : TypeId × Value → H} {w : World} {base : Nat} {sp : Nat → Bool} {held : Bool} {fuel : Nat} {cs : List Value} {x : DataW H × List MemPlace}
 (h : DataW.trod enc P w base sp held fuel t cs = some x) : ∃ xs : List Int, xs.length = fs.size ∧ cs = xs.map (Value.int .i64) ∧ ∀ x ∈ xs, I64 x := by
 obtain ⟨ys, n, _, _, hlen, hyl, hg⟩ := DataW.trod_struct ht h
 have key : ∀ i, i < fs.size → ∃ y, I64 y ∧ cs[i]? = some (.int .i64 y) := by
  intro i hi; have hfi : fs[i]? = some fs[i] := Array.getElem?_eq_getElem hi; obtain ⟨ho, hk⟩ := hone_of hone i _ hfi; have e := hg i _ hfi; rw [List.getElem?_eq_getElem (by omega), ho, hk] at e; obtain ⟨y, hy, _, hw⟩ := DataW.trod_int (hall i _ hfi) e
  have hil : i < cs.length := by omega
  have hy2 : cs[i] = Value.int .i64 y := by
   rw [List.drop_eq_getElem_cons hil] at hy; exact (List.cons.inj hy).1
  exact ⟨y, Qx hw, by rw [List.getElem?_eq_getElem hil, hy2]⟩
 have build : ∀ k, k ≤ fs.size → ∃ xs : List Int, xs.length = k ∧ cs.take k = xs.map (Value.int .i64) ∧ ∀ x ∈ xs, I64 x := by
  intro k
  induction k with
  | zero => exact fun _ => ⟨[], rfl, by simp, fun x hx => absurd hx (by simp)⟩
  | succ k ih =>
   intro hk; obtain ⟨xs, h1, h2, h3⟩ := ih (by omega); obtain ⟨y, hy, he⟩ := key k (by omega); refine ⟨xs ++ [y], by simp [h1], ?_, fun z hz => ?_⟩
   ·rw [List.take_add_one, h2, he]
    simp
   ·rcases List.mem_append.1 hz with hz | hz
    ·exact h3 z hz
    ·rw [List.mem_singleton.1 hz]; exact hy
 obtain ⟨xs, h1, h2, h3⟩ := build fs.size (Nat.le_refl _); refine ⟨xs, h1, ?_, h3⟩; rw [← h2, List.take_of_length_le (by omega)]
def XjO (P : Program) (fs : Array Field) : Bool := (List.range fs.size).all fun i => match fs[i]? with
 | some f => (match P.underlying f.type with | some (.int .i64) => true | _ => false)
 | none => true
theorem Xf0 {fs : Array Field} (h : XjO P fs = true) (i : Nat) (f : Field) (hf : fs[i]? = some f) : P.underlying f.type = some (.int .i64) := by
 have hi : i < fs.size := (Array.getElem?_eq_some_iff.1 hf).1; have := List.all_eq_true.1 h i (List.mem_range.2 hi); rw [hf] at this; simp only at this
 split at this
 ·assumption
 ·simp at this
def EB (P : Program) (t ti ts : TypeId) : Bool := match P.underlying t with
 | some (.struct fs) => (match fs[0]?, fs[1]?, fs[2]? with
  | some f0, some f1, some f2 => fs.size == 3 && f0.offset == 0 && f1.offset == 1 && f2.offset == 2 && f0.type == ti && f1.type == ti && f2.type == ts
  | _, _, _ => false)
 | _ => false
theorem Xf1 {t ti ts e : TypeId} (hf : EB P t ti ts = true) (hi : P.underlying ti = some (.int .i64)) (hs : P.underlying ts = some (.slice ti)) (hc : (P.cellsOf t == 3 && P.cellsOf ti == 1 && P.cellsOf ts == 1) = true) :
 MS P t (Kd.pair (Kd.int .i64) (Kd.pair (Kd.int .i64) (Kd.slice ti (Kd.int .i64)))) (fun x => I64 x.1 ∧ I64 x.2.1 ∧ ∀ y ∈ x.2.2, I64 y) := by
 unfold EB at hf
 split at hf
 ·rename_i fs hfs
  split at hf
  ·rename_i f0 f1 f2 h0 h1 h2
   simp only [Bool.and_eq_true, beq_iff_eq] at hf hc; obtain ⟨⟨⟨⟨⟨⟨hz, o0⟩, o1⟩, o2⟩, t0⟩, t1⟩, t2⟩ := hf; obtain ⟨⟨c0, c1⟩, c2⟩ := hc
   have hfs3 : fs = #[f0, f1, f2] := by
    apply Array.ext_getElem?; intro i
    match i with
    | 0 => simpa using h0
    | 1 => simpa using h1
    | 2 => simpa using h2
    | i + 3 => rw [Array.getElem?_eq_none (by omega)]; simp
   rw [hfs3] at hfs; intro H enc w base sp held fuel cs x hx
   exact O7 (da := Kd.int .i64) (db := Kd.int .i64) (dc := Kd.slice ti (Kd.int .i64)) (ga := I64) (gb := I64) (gc := fun l => ∀ y ∈ l, I64 y) hfs c0 o0 o1 o2 (by rw [t0]; exact c1) (by rw [t1]; exact c1) (by rw [t2]; exact c2)
    (fun hh => Su hi (t0 ▸ hh)) (fun hh => Su hi (t1 ▸ hh)) (fun hh => UL hs c1 (Su hi) (t2 ▸ hh)) hx
  ·cases hf
 ·cases hf
end Go.Proofs.YtphnphmbfogmlaaGreat.T
