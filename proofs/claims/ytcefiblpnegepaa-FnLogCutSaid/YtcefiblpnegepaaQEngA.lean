import Derived.Test.YtcefiblpnegepaaQPrM
import Derived.Test.YtcefiblpnegepaaQWEngA
namespace Go.Proofs.Ytcefiblpnegepaa.Pr
open Go.RowKit Go.Proofs.YtcefiblpnegepaaW.PrintWords Go.Proofs.YtcefiblpnegepaaW.PrintLast Go.Proofs.YtcefiblpnegepaaW.PrintMore
set_option linter.unusedVariables false
theorem hideS_ {K : Act → World → Prop} {Q : Exit → Act → World → Prop} {a : Act} {w : World} (F : World → Prop) (hF : F w) (h : ∀ w', F w' → Exit.then K Q .normal a w') : Exit.then K Q .normal a w := h w hF
theorem hideW_ {P : Program} {c : Code} {K : Exit → Act → World → Prop} {a : Act} {w : World} (F : World → Prop) (hF : F w) (h : ∀ w', F w' → Code.wp P c K a w') : Code.wp P c K a w := h w hF
section
variable {α : Type} {d : Kd α} {e base g t j : Nat} {w : World} {ok : Nat → Prop} {v : Value} {xs : List α} {cells : Array Value} {u u0 u1 u2 u3 u4 : Value}
theorem eR1 (h : d.R e w base ok v xs) (hb : w.heap[g]? = some (.cells cells t (0, 0))) (ht : ∀ q, q ∈ e :: d.E → q ≠ t) : d.R e (w.setCell ⟨g, j, none⟩ u) base ok v xs :=
  Kd.R_mono (Kd.R_far (p := ⟨g, j, none⟩) (Kd.R_types h hb ht) (fun _ hk => hk.2) _) (fun _ hk => hk.1)
theorem eR5 (h : d.R e w base ok v xs) (hb : w.heap[g]? = some (.cells cells t (0, 0))) (ht : ∀ q, q ∈ e :: d.E → q ≠ t) :
    d.R e (((((w.setCell ⟨g, 0, none⟩ u0).setCell ⟨g, 1, none⟩ u1).setCell ⟨g, 2, none⟩ u2).setCell ⟨g, 3, none⟩ u3).setCell ⟨g, 4, none⟩ u4) base ok v xs :=
  Kd.R_mono (Kd.R_far (p := ⟨g, 4, none⟩) (Kd.R_far (p := ⟨g, 3, none⟩) (Kd.R_far (p := ⟨g, 2, none⟩) (Kd.R_far (p := ⟨g, 1, none⟩) (Kd.R_far (p := ⟨g, 0, none⟩) (Kd.R_types h hb ht) (fun _ hk => hk.2) _) (fun _ hk => hk.2) _) (fun _ hk => hk.2) _) (fun _ hk => hk.2) _) (fun _ hk => hk.2) _) (fun _ hk => hk.1)
end
structure EngA (w0 w : World) (PD PM : Nat → Prop) (v0 v1 v2 : Value) (D M : List S25) (L : List S41) : Prop where
  d : Kd.R k25 25 w w0.heap.size PD v0 D
  m : Kd.R k25 25 w w0.heap.size PM v1 M
  l : Kd.R k41 41 w w0.heap.size (fun j => some j = v2.ownBlock) v2 L
  pd : ∀ j, PD j → j < w.heap.size ∧ some j ≠ v2.ownBlock
  pm : ∀ j, PM j → j < w.heap.size ∧ some j ≠ v2.ownBlock
  dm : ∀ j, PD j → ¬ PM j
def PE (PD PM : Nat → Prop) (v2 : Value) (j : Nat) : Prop := PD j ∨ PM j ∨ some j = v2.ownBlock
section
variable {w0 w w' : World} {PD PM S : Nat → Prop} {v0 v1 v2 : Value} {D M : List S25} {L : List S41}
theorem EngA.below (h : EngA w0 w PD PM v0 v1 v2 D M L) (hb : Below w.heap.size w w') : EngA w0 w' PD PM v0 v1 v2 D M L :=
  ⟨Kd.R_below h.d hb, Kd.R_below h.m hb, Kd.R_below h.l hb, fun j hj => ⟨Nat.lt_of_lt_of_le (h.pd j hj).1 hb.size, (h.pd j hj).2⟩, fun j hj => ⟨Nat.lt_of_lt_of_le (h.pm j hj).1 hb.size, (h.pm j hj).2⟩, h.dm⟩
theorem EngA.kept (h : EngA w0 w PD PM v0 v1 v2 D M L) (hk : Kept w w' S) (hne : ∀ j, PE PD PM v2 j → ¬ S j) : EngA w0 w' PD PM v0 v1 v2 D M L :=
  ⟨Kd.R_kept h.d hk (fun j hj => hne j (.inl hj)), Kd.R_kept h.m hk (fun j hj => hne j (.inr (.inl hj))), Kd.R_kept h.l hk (fun j hj => hne j (.inr (.inr hj))), fun j hj => ⟨Nat.lt_of_lt_of_le (h.pd j hj).1 hk.1, (h.pd j hj).2⟩, fun j hj => ⟨Nat.lt_of_lt_of_le (h.pm j hj).1 hk.1, (h.pm j hj).2⟩, h.dm⟩
theorem EngA.lt (h : EngA w0 w PD PM v0 v1 v2 D M L) : ∀ j, PE PD PM v2 j → j < w.heap.size := fun j hj => by
  rcases hj with hj | hj | hj
  · exact (h.pd j hj).1
  · exact (h.pm j hj).1
  · exact Kd.R_lt h.l j hj.symm
theorem EngA.far (h : EngA w0 w PD PM v0 v1 v2 D M L) {g : Nat} (hg : ¬ PE PD PM v2 g) (j : Nat) (u : Value) : EngA w0 (w.setCell ⟨g, j, none⟩ u) PD PM v0 v1 v2 D M L :=
  h.kept (S := fun k => k = g) ((Kept.refl w (fun k => k = g)).setCell (p := ⟨g, j, none⟩) (.inl rfl) u) (fun k hk e => hg (e ▸ hk))
theorem EngA.far5 (h : EngA w0 w PD PM v0 v1 v2 D M L) {g : Nat} (hg : ¬ PE PD PM v2 g) {u0 u1 u2 u3 u4 : Value} : EngA w0 (((((w.setCell ⟨g, 0, none⟩ u0).setCell ⟨g, 1, none⟩ u1).setCell ⟨g, 2, none⟩ u2).setCell ⟨g, 3, none⟩ u3).setCell ⟨g, 4, none⟩ u4) PD PM v0 v1 v2 D M L :=
  ((((h.far hg 0 u0).far hg 1 u1).far hg 2 u2).far hg 3 u3).far hg 4 u4
end
def EngTo (w0 w : World) (P : Nat → Prop) (w' : World) (v0 v1 v2 : Value) (D M : List S25) (L : List S41) : Prop :=
  ∃ PD PM, EngA w0 w' PD PM v0 v1 v2 D M L ∧ (∀ j, PE PD PM v2 j → P j ∨ w.heap.size ≤ j) ∧ Below w0.heap.size w0 w' ∧ Kept w w' P
def EngPair (w0 w : World) (P : Nat → Prop) (r1 r2 : List S25) (r3 : List S41) (r4 : Int) (r5 r6 : Bool) (e : Ending) (w' : World) : Prop :=
  ∃ A0 c0 A1 c1 A2 c2, e = .returned (.tuple #[.agg #[.slice A0 r1.length c0, .slice A1 r2.length c1, .slice A2 r3.length c2, .int .i64 r4, .bool r5], .bool r6]) ∧ EngTo w0 w P w' (.slice A0 r1.length c0) (.slice A1 r2.length c1) (.slice A2 r3.length c2) r1 r2 r3
def EngOne (w0 w : World) (P : Nat → Prop) (r1 r2 : List S25) (r3 : List S41) (r4 : Int) (r5 : Bool) (e : Ending) (w' : World) : Prop :=
  ∃ A0 c0 A1 c1 A2 c2, e = .returned (.agg #[.slice A0 r1.length c0, .slice A1 r2.length c1, .slice A2 r3.length c2, .int .i64 r4, .bool r5]) ∧ EngTo w0 w P w' (.slice A0 r1.length c0) (.slice A1 r2.length c1) (.slice A2 r3.length c2) r1 r2 r3
def EBox (w : World) (g : Nat) (v0 v1 v2 : Value) (s : Int) (d : Bool) : Prop := w.heap[g]? = some (.cells #[v0, v1, v2, .int .i64 s, .bool d] 52 (0, 0))
section
variable {w w' : World} {g : Nat} {v0 v1 v2 : Value} {s : Int} {d : Bool} {S : Nat → Prop}
theorem EBox.cells (h : EBox w g v0 v1 v2 s d) : w.cell? ⟨g, 0, none⟩ = some v0 ∧ w.cell? ⟨g, 1, none⟩ = some v1 ∧ w.cell? ⟨g, 2, none⟩ = some v2 ∧ w.cell? ⟨g, 3, none⟩ = some (.int .i64 s) ∧ w.cell? ⟨g, 4, none⟩ = some (.bool d) :=
  ⟨(blk_cell h 0).trans rfl, (blk_cell h 1).trans rfl, (blk_cell h 2).trans rfl, (blk_cell h 3).trans rfl, (blk_cell h 4).trans rfl⟩
theorem EBox.frozen (h : EBox w g v0 v1 v2 s d) (i : Nat) : w.frozen? ⟨g, i, none⟩ = false := blk_frozen h i
theorem EBox.frozens (h : EBox w g v0 v1 v2 s d) : w.frozen? ⟨g, 0, none⟩ = false ∧ w.frozen? ⟨g, 1, none⟩ = false ∧ w.frozen? ⟨g, 2, none⟩ = false ∧ w.frozen? ⟨g, 3, none⟩ = false ∧ w.frozen? ⟨g, 4, none⟩ = false := ⟨blk_frozen h 0, blk_frozen h 1, blk_frozen h 2, blk_frozen h 3, blk_frozen h 4⟩
theorem EBox.below (h : EBox w g v0 v1 v2 s d) (hb : Below w.heap.size w w') : EBox w' g v0 v1 v2 s d := blk_below h hb
theorem EBox.kept (h : EBox w g v0 v1 v2 s d) (hk : Kept w w' S) (hne : ¬ S g) : EBox w' g v0 v1 v2 s d := blk_kept h hk hne
theorem EBox.far (h : EBox w g v0 v1 v2 s d) {g' : Nat} (hne : g ≠ g') (j : Nat) (u : Value) : EBox (w.setCell ⟨g', j, none⟩ u) g v0 v1 v2 s d := blk_far h hne u
theorem EBox.lt (h : EBox w g v0 v1 v2 s d) : g < w.heap.size := blk_lt h
theorem EBox.new (w : World) (v0 v1 v2 : Value) (s : Int) (d : Bool) : EBox (w.alloc (.cells #[v0, v1, v2, .int .i64 s, .bool d] 52 (0, 0))) w.heap.size v0 v1 v2 s d := blk_new _ _
end
end Go.Proofs.Ytcefiblpnegepaa.Pr
