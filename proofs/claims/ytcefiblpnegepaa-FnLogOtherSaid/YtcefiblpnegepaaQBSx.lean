import Derived.Test.YtcefiblpnegepaaProg
import Derived.Below
import Derived.Deep.Draws
import Derived.Deep.AppendLies
import Derived.Maps.AppendAt
import Derived.OwnWalk
import Derived.Laws.BytesArg
import Derived.Laws.MakeOwn
import Derived.Laws.OwnMore
import Derived.Deep.OwnRows
import Derived.Tactics
import Derived.Lib.ConvBytes
import Derived.Laws.Slices
import Derived.WalkKit
import Derived.KernelRfl
import Derived.RowKit3
import Derived.Deep.LoopGhost
import Derived.Deep.QuietTactic
import Derived.BigQuiet
import Derived.WideLaws
import Derived.Deep.DeepCutAuto
import Derived.Deep.CutBlock
import Derived.Deep.RegionHeld3
import Derived.Laws.Rows
import Derived.Lib.AppendStr
import Derived.ArgAppend
import Derived.Laws.IdiomCopy
import Derived.OrdersHeld
import Derived.Laws.BitsLemmas
import Derived.RowKit
import Derived.Test.YtcefiblpnegepaaQBWMore
import Derived.Test.YtcefiblpnegepaaQBSq
import Derived.Test.YtcefiblpnegepaaQBWEngA
namespace Go.Proofs.Ytcefiblpnegepaa.Pr
open Go.RowKit Go.PW Go.PL Go.PM
attribute [local go_sem] Y3 Y4 YV YW Yk Yl Y5 Y6
set_option linter.unusedVariables false
set_option linter.unusedSimpArgs false
def errW : Option Int → Value
  | none => .nilIface
  | some c => .iface 0 (.int .i64 c)
theorem Zz : errW none = .nilIface := rfl
theorem Z0 (c : Int) : errW (some c) = .iface 0 (.int .i64 c) := rfl
theorem info3 : (Try.prog.info? 3).map (fun i => (i.zero, i.size, i.bytes)) = some (some (.int .i64 0), 1, 8) := by kernel_rfl
theorem info5 : (Try.prog.info? 5).map (fun i => (i.zero, i.size, i.bytes)) = some (some (.int .u8 0), 1, 1) := by kernel_rfl
theorem Xhg : (Try.prog.info? 25).map (fun i => (i.zero, i.size, i.bytes)) = some (some (.agg #[(.int .i64 0), (.int .i64 0), (.slice none 0 0)]), 3, 40) := by kernel_rfl
theorem FP : (Try.prog.info? 41).map (fun i => (i.zero, i.size, i.bytes)) = some (some (.agg #[(.int .i64 0), (.int .i64 0), (.int .i64 0), (.int .i64 0), (.int .i64 0), (.int .i64 0), (.int .i64 0), (.int .i64 0)]), 8, 64) := by kernel_rfl
structure S41 where
  f0 : Int
  f1 : Int
  f2 : Int
  f3 : Int
  f4 : Int
  f5 : Int
  f6 : Int
  f7 : Int
def z41 : S41 := ⟨(0 : Int), (0 : Int), (0 : Int), (0 : Int), (0 : Int), (0 : Int), (0 : Int), (0 : Int)⟩
def k41 : Kd S41 := Kd.iso (Kd.pair (Kd.int .i64) (Kd.pair (Kd.int .i64) (Kd.pair (Kd.int .i64) (Kd.pair (Kd.int .i64) (Kd.pair (Kd.int .i64) (Kd.pair (Kd.int .i64) (Kd.pair (Kd.int .i64) (Kd.int .i64)))))))) (fun x : S41 => (x.f0, x.f1, x.f2, x.f3, x.f4, x.f5, x.f6, x.f7))
theorem Xhh {w : World} {x : S41} {cs : List Value} (h : k41.K w x cs) : cs = [.int .i64 x.f0, .int .i64 x.f1, .int .i64 x.f2, .int .i64 x.f3, .int .i64 x.f4, .int .i64 x.f5, .int .i64 x.f6, .int .i64 x.f7] := by
  obtain ⟨_, _, rfl, rfl, ⟨_, _, rfl, rfl, ⟨_, _, rfl, rfl, ⟨_, _, rfl, rfl, ⟨_, _, rfl, rfl, ⟨_, _, rfl, rfl, ⟨_, _, rfl, rfl, rfl⟩⟩⟩⟩⟩⟩⟩ := h; exact rfl
theorem XdN {w : World} {base : Nat} {ok : Nat → Prop} {x : S41} {cs : List Value} (h : k41.M w base ok x cs) : cs = [.int .i64 x.f0, .int .i64 x.f1, .int .i64 x.f2, .int .i64 x.f3, .int .i64 x.f4, .int .i64 x.f5, .int .i64 x.f6, .int .i64 x.f7] := by
  obtain ⟨_, _, rfl, rfl, ⟨_, _, rfl, rfl, ⟨_, _, rfl, rfl, ⟨_, _, rfl, rfl, ⟨_, _, rfl, rfl, ⟨_, _, rfl, rfl, ⟨_, _, rfl, rfl, rfl⟩⟩⟩⟩⟩⟩⟩ := h; exact rfl
theorem WE (w : World) (base : Nat) (ok : Nat → Prop) (x : S41)  : k41.M w base ok x [.int .i64 x.f0, .int .i64 x.f1, .int .i64 x.f2, .int .i64 x.f3, .int .i64 x.f4, .int .i64 x.f5, .int .i64 x.f6, .int .i64 x.f7] := ⟨[.int .i64 x.f0], [.int .i64 x.f1, .int .i64 x.f2, .int .i64 x.f3, .int .i64 x.f4, .int .i64 x.f5, .int .i64 x.f6, .int .i64 x.f7], rfl, rfl, ⟨[.int .i64 x.f1], [.int .i64 x.f2, .int .i64 x.f3, .int .i64 x.f4, .int .i64 x.f5, .int .i64 x.f6, .int .i64 x.f7], rfl, rfl, ⟨[.int .i64 x.f2], [.int .i64 x.f3, .int .i64 x.f4, .int .i64 x.f5, .int .i64 x.f6, .int .i64 x.f7], rfl, rfl, ⟨[.int .i64 x.f3], [.int .i64 x.f4, .int .i64 x.f5, .int .i64 x.f6, .int .i64 x.f7], rfl, rfl, ⟨[.int .i64 x.f4], [.int .i64 x.f5, .int .i64 x.f6, .int .i64 x.f7], rfl, rfl, ⟨[.int .i64 x.f5], [.int .i64 x.f6, .int .i64 x.f7], rfl, rfl, ⟨[.int .i64 x.f6], [.int .i64 x.f7], rfl, rfl, rfl⟩⟩⟩⟩⟩⟩⟩
def Xa (xs : List S41) (i : Int) : S41 := xs.getD i.toNat z41
theorem YN {w : World} {A : Option Addr} {n : Nat} {xs : List S41} (h : Kd.C k41 w A n xs) (i : Int) (h0 : 0 ≤ i) (h1 : i < n) : ∃ ad , A = some ad ∧ w.cell? (ad.add (i.toNat * 8)) = some (.int .i64 (Xa xs i).f0) ∧ w.cell? ⟨(ad.add (i.toNat * 8)).block, (ad.add (i.toNat * 8)).off + 1, none⟩ = some (.int .i64 (Xa xs i).f1) ∧ w.cell? ⟨(ad.add (i.toNat * 8)).block, (ad.add (i.toNat * 8)).off + 2, none⟩ = some (.int .i64 (Xa xs i).f2) ∧ w.cell? ⟨(ad.add (i.toNat * 8)).block, (ad.add (i.toNat * 8)).off + 3, none⟩ = some (.int .i64 (Xa xs i).f3) ∧ w.cell? ⟨(ad.add (i.toNat * 8)).block, (ad.add (i.toNat * 8)).off + 4, none⟩ = some (.int .i64 (Xa xs i).f4) ∧ w.cell? ⟨(ad.add (i.toNat * 8)).block, (ad.add (i.toNat * 8)).off + 5, none⟩ = some (.int .i64 (Xa xs i).f5) ∧ w.cell? ⟨(ad.add (i.toNat * 8)).block, (ad.add (i.toNat * 8)).off + 6, none⟩ = some (.int .i64 (Xa xs i).f6) ∧ w.cell? ⟨(ad.add (i.toNat * 8)).block, (ad.add (i.toNat * 8)).off + 7, none⟩ = some (.int .i64 (Xa xs i).f7) := by
  obtain ⟨ad, c, e, _, hK, hc0⟩ := Kd.XlK h z41 i h0 h1; have hc : ∀ j u, c[j]? = some u → w.cell? (ad.add (i.toNat * 8 + j)) = some u := hc0; obtain rfl := Xhh hK; exact ⟨ad, e, hc 0 _ rfl, by rw [← Fs _ _ 1 (by omega)]; exact hc 1 _ rfl, by rw [← Fs _ _ 2 (by omega)]; exact hc 2 _ rfl, by rw [← Fs _ _ 3 (by omega)]; exact hc 3 _ rfl, by rw [← Fs _ _ 4 (by omega)]; exact hc 4 _ rfl, by rw [← Fs _ _ 5 (by omega)]; exact hc 5 _ rfl, by rw [← Fs _ _ 6 (by omega)]; exact hc 6 _ rfl, by rw [← Fs _ _ 7 (by omega)]; exact hc 7 _ rfl⟩
structure S25 where
  f0 : Int
  f1 : Int
  f2 : (List Int)
def z25 : S25 := ⟨(0 : Int), (0 : Int), ([] : List Int)⟩
def k25 : Kd S25 := Kd.iso (Kd.pair (Kd.int .i64) (Kd.pair (Kd.int .i64) (Kd.slice 3 (Kd.int .i64)))) (fun x : S25 => (x.f0, x.f1, x.f2))
theorem Xhi {w : World} {x : S25} {cs : List Value} (h : k25.K w x cs) : ∃ A2 c2, cs = [.int .i64 x.f0, .int .i64 x.f1, .slice A2 x.f2.length c2] ∧ x.f2.length ≤ c2 ∧ (Kd.int .i64).C w A2 x.f2.length x.f2 := by
  obtain ⟨_, _, rfl, rfl, ⟨_, _, rfl, rfl, ⟨A2, c2, rfl, l2, g2⟩⟩⟩ := h; exact ⟨A2, c2, rfl, l2, g2⟩
theorem JP {w : World} {base : Nat} {ok : Nat → Prop} {x : S25} {cs : List Value} (h : k25.M w base ok x cs) : ∃ v2, cs = [.int .i64 x.f0, .int .i64 x.f1, v2] ∧ (Kd.int .i64).R 3 w base ok v2 x.f2 := by
  obtain ⟨_, _, rfl, rfl, ⟨_, _, rfl, rfl, ⟨v2, rfl, g2⟩⟩⟩ := h; exact ⟨v2, rfl, g2⟩
theorem WJ (w : World) (base : Nat) (ok : Nat → Prop) (x : S25) {v2 : Value} (g2 : (Kd.int .i64).R 3 w base ok v2 x.f2) : k25.M w base ok x [.int .i64 x.f0, .int .i64 x.f1, v2] := ⟨[.int .i64 x.f0], [.int .i64 x.f1, v2], rfl, rfl, ⟨[.int .i64 x.f1], [v2], rfl, rfl, ⟨v2, rfl, g2⟩⟩⟩
def Xn (xs : List S25) (i : Int) : S25 := xs.getD i.toNat z25
theorem L9 {w : World} {A : Option Addr} {n : Nat} {xs : List S25} (h : Kd.C k25 w A n xs) (i : Int) (h0 : 0 ≤ i) (h1 : i < n) : ∃ ad A2 c2, A = some ad ∧ w.cell? (ad.add (i.toNat * 3)) = some (.int .i64 (Xn xs i).f0) ∧ w.cell? ⟨(ad.add (i.toNat * 3)).block, (ad.add (i.toNat * 3)).off + 1, none⟩ = some (.int .i64 (Xn xs i).f1) ∧ w.cell? ⟨(ad.add (i.toNat * 3)).block, (ad.add (i.toNat * 3)).off + 2, none⟩ = some (.slice A2 (Xn xs i).f2.length c2) ∧ (Xn xs i).f2.length ≤ c2 ∧ (Kd.int .i64).C w A2 (Xn xs i).f2.length (Xn xs i).f2 := by
  obtain ⟨ad, c, e, _, hK, hc0⟩ := Kd.XlK h z25 i h0 h1; have hc : ∀ j u, c[j]? = some u → w.cell? (ad.add (i.toNat * 3 + j)) = some u := hc0; obtain ⟨A2, c2, rfl, l2, g2⟩ := Xhi hK; exact ⟨ad, A2, c2, e, hc 0 _ rfl, by rw [← Fs _ _ 1 (by omega)]; exact hc 1 _ rfl, by rw [← Fs _ _ 2 (by omega)]; exact hc 2 _ rfl, l2, g2⟩
end Go.Proofs.Ytcefiblpnegepaa.Pr
namespace Go.Proofs.Ytcefiblpnegepaa.Pr
open Go.RowKit Go.PW Go.PL Go.PM
set_option linter.unusedVariables false
theorem cb {w W : World} {a : Addr} {v : Value} (HB : Aside0 (Below w.heap.size w W)) (h : w.cell? a = some v) : W.cell? a = some v :=
  (HB.out.cell (World.block_lt_of_cell? w _ h)).trans h
theorem cc {w W : World} {a : Addr} {v : Value} (HB : Below w.heap.size w W) (h : w.cell? a = some v) : W.cell? a = some v :=
  (HB.cell (World.block_lt_of_cell? w _ h)).trans h
theorem na {a : Addr} {n g : Nat} (h : a.block ≠ g) : (a.add n).block ≠ g := by rw [add_block]; exact h
theorem nq {w : World} {a : Addr} {n g : Nat} {v : Value} (h : w.cell? (a.add n) = some v) (G : Aside0 (w.heap.size ≤ g)) : a.block ≠ g :=
  Nat.ne_of_lt (Nat.lt_of_lt_of_le (by have := World.block_lt_of_cell? _ _ h; rwa [add_block] at this) G.out)
theorem c8 {W : World} {a : Addr} {g : Nat} {v : Value} (r : S41) (hx : W.cell? a = some v) (h : a.block ≠ g) :
    ((((((((W.setCell ⟨g, 0, none⟩ (.int .i64 r.f0)).setCell ⟨g, 1, none⟩ (.int .i64 r.f1)).setCell ⟨g, 2, none⟩ (.int .i64 r.f2)).setCell ⟨g, 3, none⟩ (.int .i64 r.f3)).setCell ⟨g, 4, none⟩ (.int .i64 r.f4)).setCell ⟨g, 5, none⟩ (.int .i64 r.f5)).setCell ⟨g, 6, none⟩ (.int .i64 r.f6)).setCell ⟨g, 7, none⟩ (.int .i64 r.f7)).cell? a = some v := by
  rw [cell_far h, cell_far h, cell_far h, cell_far h, cell_far h, cell_far h, cell_far h, cell_far h, hx]
theorem kb {w0 w w1 : World} {g g' : Nat} {o : Obj} (h : Aside0 (w0.heap[g']? = some o)) (hk : Xl w w1 g none) (n : Aside0 (g' ≠ g)) (f : w0.heap[g']? = some o → w.heap[g']? = some o := by exact fun h => by (with_reducible repeat (first | apply bn | apply bd | apply ba)); exact h) : Aside0 (w1.heap[g']? = some o) :=
  ⟨hk.blk (f h.out) n.out (by simp)⟩
theorem bq {w0 w w1 : World} {g : Nat} {o : Obj} (h : Aside0 (w0.heap[g]? = some o)) (hb : Below w.heap.size w w1) (f : w0.heap[g]? = some o → w.heap[g]? = some o := by exact fun h => by (with_reducible repeat (first | apply bn | apply bd | apply ba)); exact h) : Aside0 (w1.heap[g]? = some o) := bb h f hb
theorem nbq {w0 w : World} {g g1 : Nat} {o : Obj} (h : Aside0 (w0.heap[g]? = some o)) (hg : g1 = w.heap.size) (f : w0.heap[g]? = some o → w.heap[g]? = some o := by exact fun h => by (with_reducible repeat (first | apply bn | apply bd | apply ba)); exact h) : Aside0 (g ≠ g1) ∧ Aside0 (g1 ≠ g) := nb h hg f
abbrev r8t (w : World) (a : Addr) (x : S41) : Prop := w.cell? a = some (.int .i64 x.f0) ∧ w.cell? ⟨a.block, a.off + 1, none⟩ = some (.int .i64 x.f1) ∧ w.cell? ⟨a.block, a.off + 2, none⟩ = some (.int .i64 x.f2) ∧ w.cell? ⟨a.block, a.off + 3, none⟩ = some (.int .i64 x.f3) ∧ w.cell? ⟨a.block, a.off + 4, none⟩ = some (.int .i64 x.f4) ∧ w.cell? ⟨a.block, a.off + 5, none⟩ = some (.int .i64 x.f5) ∧ w.cell? ⟨a.block, a.off + 6, none⟩ = some (.int .i64 x.f6) ∧ w.cell? ⟨a.block, a.off + 7, none⟩ = some (.int .i64 x.f7)
abbrev r8 (w : World) (a : Addr) (x : S41) (R : Prop) : Prop := w.cell? a = some (.int .i64 x.f0) ∧ w.cell? ⟨a.block, a.off + 1, none⟩ = some (.int .i64 x.f1) ∧ w.cell? ⟨a.block, a.off + 2, none⟩ = some (.int .i64 x.f2) ∧ w.cell? ⟨a.block, a.off + 3, none⟩ = some (.int .i64 x.f3) ∧ w.cell? ⟨a.block, a.off + 4, none⟩ = some (.int .i64 x.f4) ∧ w.cell? ⟨a.block, a.off + 5, none⟩ = some (.int .i64 x.f5) ∧ w.cell? ⟨a.block, a.off + 6, none⟩ = some (.int .i64 x.f6) ∧ w.cell? ⟨a.block, a.off + 7, none⟩ = some (.int .i64 x.f7) ∧ R
abbrev g8t (w : World) (g : Nat) (x : S41) (b h : Int) : Prop := w.cell? ⟨g, 0, none⟩ = some (.int .i64 x.f0) ∧ w.cell? ⟨g, 1, none⟩ = some (.int .i64 b) ∧ w.cell? ⟨g, 2, none⟩ = some (.int .i64 x.f2) ∧ w.cell? ⟨g, 3, none⟩ = some (.int .i64 x.f3) ∧ w.cell? ⟨g, 4, none⟩ = some (.int .i64 x.f4) ∧ w.cell? ⟨g, 5, none⟩ = some (.int .i64 x.f5) ∧ w.cell? ⟨g, 6, none⟩ = some (.int .i64 x.f6) ∧ w.cell? ⟨g, 7, none⟩ = some (.int .i64 h)
abbrev g8 (w : World) (g : Nat) (x : S41) (b h : Int) (R : Prop) : Prop := w.cell? ⟨g, 0, none⟩ = some (.int .i64 x.f0) ∧ w.cell? ⟨g, 1, none⟩ = some (.int .i64 b) ∧ w.cell? ⟨g, 2, none⟩ = some (.int .i64 x.f2) ∧ w.cell? ⟨g, 3, none⟩ = some (.int .i64 x.f3) ∧ w.cell? ⟨g, 4, none⟩ = some (.int .i64 x.f4) ∧ w.cell? ⟨g, 5, none⟩ = some (.int .i64 x.f5) ∧ w.cell? ⟨g, 6, none⟩ = some (.int .i64 x.f6) ∧ w.cell? ⟨g, 7, none⟩ = some (.int .i64 h) ∧ R
abbrev bx (x : S41) (b h : Int) : Obj := .cells #[.int .i64 x.f0, .int .i64 b, .int .i64 x.f2, .int .i64 x.f3, .int .i64 x.f4, .int .i64 x.f5, .int .i64 x.f6, .int .i64 h] 41
abbrev agx (x : S41) (b h : Int) : Value := .agg #[.int .i64 x.f0, .int .i64 b, .int .i64 x.f2, .int .i64 x.f3, .int .i64 x.f4, .int .i64 x.f5, .int .i64 x.f6, .int .i64 h]
end Go.Proofs.Ytcefiblpnegepaa.Pr
