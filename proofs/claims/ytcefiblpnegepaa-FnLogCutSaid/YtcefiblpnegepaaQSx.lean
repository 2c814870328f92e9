import Derived.Test.YtcefiblpnegepaaQPrK
import Derived.Test.YtcefiblpnegepaaQWEngA
namespace Go.Proofs.Ytcefiblpnegepaa.Pr
open Go.RowKit Go.Proofs.YtcefiblpnegepaaW.PrintWords Go.Proofs.YtcefiblpnegepaaW.PrintLast Go.Proofs.YtcefiblpnegepaaW.PrintMore
set_option linter.unusedVariables false
theorem cb {w W : World} {a : Addr} {v : Value} (HB : Aside0 (Below w.heap.size w W)) (h : w.cell? a = some v) : W.cell? a = some v :=
  (HB.out.cell (World.block_lt_of_cell? w _ h)).trans h
theorem cc {w W : World} {a : Addr} {v : Value} (HB : Below w.heap.size w W) (h : w.cell? a = some v) : W.cell? a = some v :=
  (HB.cell (World.block_lt_of_cell? w _ h)).trans h
theorem na {a : Addr} {n g : Nat} (h : a.block ≠ g) : (a.add n).block ≠ g := by rw [add_block]; exact h
theorem nq {w : World} {a : Addr} {n g : Nat} {v : Value} (h : w.cell? (a.add n) = some v) (G : Aside0 (w.heap.size ≤ g)) : a.block ≠ g :=
  Nat.ne_of_lt (Nat.lt_of_lt_of_le (by have := World.block_lt_of_cell? _ _ h; rwa [add_block] at this) G.out)
theorem c8 {W : World} {a : Addr} {g : Nat} {v : Value} (r : S41) (hx : W.cell? a = some v) (h : a.block ≠ g) :
    ((((((((W.setCell ⟨g, 0, none⟩ (.int .i64 r.f0)).setCell ⟨g, 1, none⟩ (.int .i64 r.f1)).setCell ⟨g, 2, none⟩ (.int .i64 r.f2)).setCell ⟨g, 3, none⟩ (.int .i64 r.f3)).setCell ⟨g, 4, none⟩ (.int .i64 r.f4)).setCell ⟨g, 5, none⟩ (.int .i64 r.f5)).setCell ⟨g, 6, none⟩ (.int .i64 r.f6)).setCell ⟨g, 7, none⟩ (.int .i64 r.f7)).cell? a = some v := by
  rw [cell_far h, cell_far h, cell_far h, cell_far h, cell_far h, cell_far h, cell_far h, cell_far h, hx]
abbrev r8t (w : World) (a : Addr) (x : S41) : Prop := w.cell? a = some (.int .i64 x.f0) ∧ w.cell? ⟨a.block, a.off + 1, none⟩ = some (.int .i64 x.f1) ∧ w.cell? ⟨a.block, a.off + 2, none⟩ = some (.int .i64 x.f2) ∧ w.cell? ⟨a.block, a.off + 3, none⟩ = some (.int .i64 x.f3) ∧ w.cell? ⟨a.block, a.off + 4, none⟩ = some (.int .i64 x.f4) ∧ w.cell? ⟨a.block, a.off + 5, none⟩ = some (.int .i64 x.f5) ∧ w.cell? ⟨a.block, a.off + 6, none⟩ = some (.int .i64 x.f6) ∧ w.cell? ⟨a.block, a.off + 7, none⟩ = some (.int .i64 x.f7)
abbrev r8 (w : World) (a : Addr) (x : S41) (R : Prop) : Prop := w.cell? a = some (.int .i64 x.f0) ∧ w.cell? ⟨a.block, a.off + 1, none⟩ = some (.int .i64 x.f1) ∧ w.cell? ⟨a.block, a.off + 2, none⟩ = some (.int .i64 x.f2) ∧ w.cell? ⟨a.block, a.off + 3, none⟩ = some (.int .i64 x.f3) ∧ w.cell? ⟨a.block, a.off + 4, none⟩ = some (.int .i64 x.f4) ∧ w.cell? ⟨a.block, a.off + 5, none⟩ = some (.int .i64 x.f5) ∧ w.cell? ⟨a.block, a.off + 6, none⟩ = some (.int .i64 x.f6) ∧ w.cell? ⟨a.block, a.off + 7, none⟩ = some (.int .i64 x.f7) ∧ R
abbrev g8t (w : World) (g : Nat) (x : S41) (b h : Int) : Prop := w.cell? ⟨g, 0, none⟩ = some (.int .i64 x.f0) ∧ w.cell? ⟨g, 1, none⟩ = some (.int .i64 b) ∧ w.cell? ⟨g, 2, none⟩ = some (.int .i64 x.f2) ∧ w.cell? ⟨g, 3, none⟩ = some (.int .i64 x.f3) ∧ w.cell? ⟨g, 4, none⟩ = some (.int .i64 x.f4) ∧ w.cell? ⟨g, 5, none⟩ = some (.int .i64 x.f5) ∧ w.cell? ⟨g, 6, none⟩ = some (.int .i64 x.f6) ∧ w.cell? ⟨g, 7, none⟩ = some (.int .i64 h)
abbrev g8 (w : World) (g : Nat) (x : S41) (b h : Int) (R : Prop) : Prop := w.cell? ⟨g, 0, none⟩ = some (.int .i64 x.f0) ∧ w.cell? ⟨g, 1, none⟩ = some (.int .i64 b) ∧ w.cell? ⟨g, 2, none⟩ = some (.int .i64 x.f2) ∧ w.cell? ⟨g, 3, none⟩ = some (.int .i64 x.f3) ∧ w.cell? ⟨g, 4, none⟩ = some (.int .i64 x.f4) ∧ w.cell? ⟨g, 5, none⟩ = some (.int .i64 x.f5) ∧ w.cell? ⟨g, 6, none⟩ = some (.int .i64 x.f6) ∧ w.cell? ⟨g, 7, none⟩ = some (.int .i64 h) ∧ R
abbrev bx (x : S41) (b h : Int) : Obj := .cells #[.int .i64 x.f0, .int .i64 b, .int .i64 x.f2, .int .i64 x.f3, .int .i64 x.f4, .int .i64 x.f5, .int .i64 x.f6, .int .i64 h] 41
abbrev agx (x : S41) (b h : Int) : Value := .agg #[.int .i64 x.f0, .int .i64 b, .int .i64 x.f2, .int .i64 x.f3, .int .i64 x.f4, .int .i64 x.f5, .int .i64 x.f6, .int .i64 h]
end Go.Proofs.Ytcefiblpnegepaa.Pr
