/- The tail of pagesOf: Sort, Compact, Clip of a slice of one's own. -/
import Derived.Test.YtcefiblpnegepaaZk
import Derived.Test.YtcefiblpnegepaaSortP
import Derived.Test.YtcefiblpnegepaaShelfS
import Derived.Test.YtcefiblpnegepaaIntS
import Derived.Sort.OwnSortedInts
import Derived.Lib.RowBridge
namespace Go.Proofs.Ytcefiblpnegepaa.Pr
open Go.RowKit Go.Proofs.YtcefiblpnegepaaW.PrintWords Go.Proofs.YtcefiblpnegepaaW.PrintLast Go.Proofs.YtcefiblpnegepaaW.PrintMore Go.Proofs.Ytcefiblpnegepaa.T Go.Sort
set_option linter.unusedVariables false
set_option linter.unusedSimpArgs false
theorem clip_calls (A : Option Addr) (n c : Nat) (w : World) (hn : n ≤ c) (hm : n ≤ 9223372036854775807) :
    Calls Try.prog 121 #[.slice A n c] w fun e w' => e = .returned (.slice A n n) ∧ w = w' := by
  have hc := eq_true (show n ≤ c from hn)
  go_enter Try.func121, Try.ntmps121
  go_wp2
  go_ret
  exact ⟨rfl, rfl⟩
theorem all_calls (a0 a1 a2 a3 a4 a5 a6 a7 : Int) (w : World) :
    Calls Try.prog 110 #[.agg #[.int .i64 a0, .int .i64 a1, .int .i64 a2, .int .i64 a3, .int .i64 a4, .int .i64 a5, .int .i64 a6, .int .i64 a7]] w fun e w' => e = .returned (.bool true) ∧ Below w.heap.size w w' := by
  go_enter Try.func110, Try.ntmps110
  go_wp2
  go_ret
  exact ⟨rfl, bl0 _⟩
theorem below_grown {B g : Nat} {w W w1 : World} (hB : Below B w W) (hsz : B ≤ W.heap.size) (hg : W.grownBy w1 (some g)) (hgB : B ≤ g) : Below B w w1 :=
  ⟨hg.os.trans hB.os, hg.tape.trans hB.tape, hg.output.trans hB.output, Nat.le_trans hB.size hg.size, fun i hi => (hg.block i (by omega) (fun h => by cases h; omega)).trans (hB.block i hi)⟩
theorem R_after {α : Type} {d : Kd α} {e base : Nat} {ok : Nat → Prop} {W w1 : World} {u v v1 : Value} {xs : List α} (h : d.R e W base (fun k => ok k ∧ some k ≠ v.ownBlock) u xs) (hg : W.grownBy w1 v.ownBlock) (hat : v1.ownBlock = v.ownBlock ∨ ∃ b, v1.ownBlock = some b ∧ W.heap.size ≤ b) : d.R e w1 base (fun k => ok k ∧ some k ≠ v1.ownBlock) u xs := by
  refine Kd.R_mono (Kd.R_step (Kd.R_bound h) (fun k hk hl => hg.block k hl hk.1.2)) (fun k hk => ⟨hk.1.1, ?_⟩)
  rcases hat with hat | ⟨b, hb, hle⟩
  · rw [hat]; exact hk.1.2
  · rw [hb]
    intro he
    injection he with he
    have := hk.2.2.1
    omega
abbrev leI : Int → Int → Bool := fun x y => decide (x ≤ y)
theorem sortI_calls (w0 W : World) (ok : Nat → Prop) (v : Value) (r : List Int) (hB : Below w0.heap.size w0 W) (h : Kd.R (Kd.int .i64) 3 W w0.heap.size ok v r) (hl : r.length < 4611686018427387904) :
    Calls Try.prog 120 #[v] W fun e w' => e = .returned (.tuple #[]) ∧ Kd.R (Kd.int .i64) 3 w' w0.heap.size ok v (r.mergeSort leI) ∧ Below w0.heap.size w0 w' := by
  obtain ⟨A, c, rfl⟩ := Kd.R_slice h
  cases hr : r with
  | nil =>
    subst hr
    refine (Try.slices_Sort_int_none A c W).mono ?_
    rintro e w' ⟨rfl, rfl⟩
    exact ⟨rfl, by simpa using h, hB⟩
  | cons x0 r0 =>
    rw [← hr]
    have hp : 0 < r.length := by rw [hr]; simp
    have ho := Kd.own_of_R h
    rcases ho.2 with ⟨_, h0⟩ | ⟨g, cap, cur, hv, hb, hh, h1, h2, h3, h4⟩
    · omega
    · injection hv with e1 _ e3
      subst e1 e3
      have hH : Holds (Value.int .i64) W g 0 r.toArray := holds_of_blockI hh (by simpa [encs] using h4)
      refine (Try.slices_Sort_int g 0 c r W hH (Array.getElem?_eq_some_iff.1 hh).1 hl).mono ?_
      rintro e w' ⟨rfl, n, os, rfl⟩
      have hlen : (r.mergeSort leI).length = r.length := by simp
      refine ⟨rfl, ?_, below_grown hB hB.size (grownBy_sortedI _) hb⟩
      have hq := ownsRow_sortedI (n := n) (os := os) hlen hb hh h1 h2 h3
      refine Kd.R_of_own ?_ h.1
      rw [hlen]
      exact hq
theorem compactI_calls (w0 W : World) (ok : Nat → Prop) (v : Value) (r : List Int) (hB : Below w0.heap.size w0 W) (h : Kd.R (Kd.int .i64) 3 W w0.heap.size ok v r) (hl : r.length ≤ 9223372036854775807) :
    Calls Try.prog 122 #[v] W fun e w' => ∃ A c, e = .returned (.slice A (Lib.compact r).length c) ∧ (Lib.compact r).length ≤ c ∧ Kd.R (Kd.int .i64) 3 w' w0.heap.size ok (.slice A (Lib.compact r).length c) (Lib.compact r) ∧ Below w0.heap.size w0 w' := by
  obtain ⟨A, c, rfl⟩ := Kd.R_slice h
  cases hr : r with
  | nil =>
    subst hr
    refine (Try.slices_Compact_int_empty A c W).mono ?_
    rintro e w' ⟨rfl, rfl⟩
    exact ⟨A, c, rfl, Nat.zero_le _, h, hB⟩
  | cons x0 r0 =>
    rw [← hr]
    have hp : 0 < r.length := by rw [hr]; simp
    have ho := Kd.own_of_R h
    rcases ho.2 with ⟨_, h0⟩ | ⟨g, cap, cur, hv, hb, hh, h1, h2, h3, h4⟩
    · omega
    · injection hv with e1 _ e3
      subst e1 e3
      have hH : Holds (Value.int .i64) W g 0 r.toArray := holds_of_blockI hh (by simpa [encs] using h4)
      refine (Try.slices_Compact_int g 0 c r W hH hl h1).mono ?_
      rintro e w' ⟨rfl, q, rfl⟩
      have hm := Lib.compact_length_le r
      have hlen : (Lib.compact r ++ List.replicate (r.length - (Lib.compact r).length) 0).length = r.length := by simp; omega
      have hg := grownBy_sortedI (w := W) (g := g) (n := q) (os := #[]) (Lib.compact r ++ List.replicate (r.length - (Lib.compact r).length) 0).toArray
      have hq := ownsRow_sortedI (n := q) (os := #[]) hlen hb hh h1 h2 h3
      rw [grow_empty] at hg hq
      refine ⟨_, c, rfl, by omega, ?_, below_grown hB hB.size hg hb⟩
      refine Kd.R_of_own ?_ h.1
      rcases hq.2 with ⟨hn, _⟩ | ⟨g2, cap2, cur2, hv2, hb2, hh2, k1, k2, k3, k4⟩
      · cases hn
      · injection hv2 with f1 _ f3
        injection f1 with f1
        injection f1 with f1
        subst f1 f3
        refine ⟨by simp [encs], .inr ⟨_, _, cur2, rfl, hb2, hh2, by omega, k2, k3, ?_⟩⟩
        have k5 := congrArg (List.take (Lib.compact r).length) k4
        rw [List.take_take, Nat.mul_one, Nat.min_eq_left hm, ← List.map_take, List.take_left] at k5
        rw [Nat.mul_one]
        exact k5
end Go.Proofs.Ytcefiblpnegepaa.Pr
