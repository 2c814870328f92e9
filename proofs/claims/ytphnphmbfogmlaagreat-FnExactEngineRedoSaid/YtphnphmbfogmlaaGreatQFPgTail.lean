import Derived.Shelf.Sort.Plain
import Derived.Ground.Names2Prog
import Derived.Shelf.Slices.CompactI
import Derived.Shelf.Slices.In.SortNone
import Derived.Test.YtphnphmbfogmlaaGreatProg
import Derived.Lib.SlicesCompact
import Derived.Sort.OwnSortedInts
import Derived.Lib.RowBridge
import Derived.Test.YtphnphmbfogmlaaGreatQFByq
import Derived.Test.YtphnphmbfogmlaaGreatQFWMore
import Derived.Test.YtphnphmbfogmlaaGreatQFSx
import Derived.Test.YtphnphmbfogmlaaGreatQFPrInts
import Derived.Test.YtphnphmbfogmlaaGreatQFRec
namespace Go.Proofs
open Go.Shelf
def Tryz.XdA : Go.Shelf.Ren := ⟨fun | 189 => 92 | 125 => 110 | 257 => 109 | 128 => 126 | 129 => 127 | 294 => 117 | 295 => 118 | 296 => 119 | 297 => 120 | 298 => 121 | 299 => 122 | 216 => 123 | 300 => 124 | 301 => 125 | 328 => 128 | 329 => 129 | 330 => 130 | 331 => 131 | 332 => 132 | 215 => 133 | 343 => 134 | n => n, fun | 28 => 37 | 3 => 3 | 46 => 106 | 0 => 0 | 51 => 119 | 53 => 121 | 4 => 4 | 183 => 112 | 182 => 111 | 131 => 52 | 5 => 5 | 9 => 9 | 218 => 122 | 222 => 126 | 228 => 128 | 229 => 35 | n => n, fun | n => n⟩
theorem Tryz.XjY : Go.Proofs.Lays.n189 Tryz.prog Tryz.XdA := {
 mixed := by kernel_rfl
 f125 := Tryz.func110.trans (congrArg some zb6)
 f128 := Tryz.func126.trans (congrArg some zb6)
 f129 := Tryz.func127.trans (congrArg some zb6)
 f189 := Tryz.func92.trans (congrArg some zb6)
 f215 := Tryz.func133.trans (congrArg some zb6)
 f216 := Tryz.func123.trans (congrArg some zb6)
 f257 := Tryz.func109.trans (congrArg some zb6)
 f294 := Tryz.func117.trans (congrArg some zb6)
 f295 := Tryz.func118.trans (congrArg some zb6)
 f296 := Tryz.func119.trans (congrArg some zb6)
 f297 := Tryz.func120.trans (congrArg some zb6)
 f298 := Tryz.func121.trans (congrArg some zb6)
 f299 := Tryz.func122.trans (congrArg some zb6)
 f300 := Tryz.func124.trans (congrArg some zb6)
 f301 := Tryz.func125.trans (congrArg some zb6)
 f328 := Tryz.func128.trans (congrArg some zb6)
 f329 := Tryz.func129.trans (congrArg some zb6)
 f330 := Tryz.func130.trans (congrArg some zb6)
 f331 := Tryz.func131.trans (congrArg some zb6)
 f332 := Tryz.func132.trans (congrArg some zb6)
 f343 := Tryz.func134.trans (congrArg some zb6)
 t0 := Tryz.underlying0
 a0 := Tryz.isAgg0
 z0 := Tryz.sizeOf0
 v0 := Tryz.zeroValue0
 t3 := Tryz.underlying3
 a3 := Tryz.isAgg3
 z3 := Tryz.sizeOf3
 v3 := Tryz.zeroValue3
 t4 := Tryz.underlying4
 a4 := Tryz.isAgg4
 z4 := Tryz.sizeOf4
 v4 := Tryz.zeroValue4
 t5 := Tryz.underlying5
 a5 := Tryz.isAgg5
 z5 := Tryz.sizeOf5
 v5 := Tryz.zeroValue5
 t9 := Tryz.underlying9
 a9 := Tryz.isAgg9
 z9 := Tryz.sizeOf9
 v9 := Tryz.zeroValue9
 t28 := Tryz.underlying37
 a28 := Tryz.isAgg37
 z28 := Tryz.sizeOf37
 v28 := Tryz.zeroValue37
 t46 := Tryz.underlying106
 a46 := Tryz.isAgg106
 z46 := Tryz.sizeOf106
 v46 := Tryz.zeroValue106
 t51 := Tryz.underlying119
 a51 := Tryz.isAgg119
 z51 := Tryz.sizeOf119
 v51 := Tryz.zeroValue119
 t53 := Tryz.underlying121
 a53 := Tryz.isAgg121
 z53 := Tryz.sizeOf121
 v53 := Tryz.zeroValue121
 t131 := Tryz.underlying52
 a131 := Tryz.isAgg52
 z131 := Tryz.sizeOf52
 v131 := Tryz.zeroValue52
 t182 := Tryz.underlying111
 a182 := Tryz.isAgg111
 z182 := Tryz.sizeOf111
 v182 := Tryz.zeroValue111
 t183 := Tryz.underlying112
 a183 := Tryz.isAgg112
 z183 := Tryz.sizeOf112
 v183 := Tryz.zeroValue112
 t218 := Tryz.underlying122
 a218 := Tryz.isAgg122
 z218 := Tryz.sizeOf122
 v218 := Tryz.zeroValue122
 t222 := Tryz.underlying126
 a222 := Tryz.isAgg126
 z222 := Tryz.sizeOf126
 v222 := Tryz.zeroValue126
 t228 := Tryz.underlying128
 a228 := Tryz.isAgg128
 z228 := Tryz.sizeOf128
 v228 := Tryz.zeroValue128
 t229 := Tryz.underlying35
 a229 := Tryz.isAgg35
 z229 := Tryz.sizeOf35
 v229 := Tryz.zeroValue35 }
open Go.Sort Go.RowKit in
theorem Tryz.slices_Sort_int (blk off cap : Nat) (zs : List Int) (w : World) (hH : Holds (Value.int .i64) w blk off zs.toArray) (hblk : blk < w.heap.size) (hsz : zs.length < 4611686018427387904) :
 Calls Tryz.prog 92 #[.slice (some ⟨blk, off, none⟩) zs.length cap] w fun e w' =>
  e = .returned (.tuple #[]) ∧ ∃ n os, w' = grow (putRow (Value.int .i64) (Sort.ahead w n) blk off (zs.mergeSort fun x y => decide (x ≤ y)).toArray) os := Any.slices_Sort_int Tryz.XjY blk off cap zs w hH hblk hsz
def Tryz.OB : Go.Shelf.Ren := ⟨fun | 20 => 94 | n => n, fun | 22 => 37 | 3 => 3 | 4 => 4 | 0 => 0 | n => n, fun | n => n⟩
theorem Tryz.QK : Go.Proofs.Lays2.n20 Tryz.prog Tryz.OB := {
 mixed := by kernel_rfl
 f20 := Tryz.func94.trans (congrArg some zb6)
 t0 := Tryz.underlying0
 a0 := Tryz.isAgg0
 z0 := Tryz.sizeOf0
 v0 := Tryz.zeroValue0
 t3 := Tryz.underlying3
 a3 := Tryz.isAgg3
 z3 := Tryz.sizeOf3
 v3 := Tryz.zeroValue3
 t4 := Tryz.underlying4
 a4 := Tryz.isAgg4
 z4 := Tryz.sizeOf4
 v4 := Tryz.zeroValue4
 t22 := Tryz.underlying37
 a22 := Tryz.isAgg37
 z22 := Tryz.sizeOf37
 v22 := Tryz.zeroValue37
 i3 := by kernel_rfl }
open Go.RowKit Go.Lib Go.Sort in
theorem Tryz.slices_Compact_int (blk off cap : Nat) (zs : List Int) (w : World) (hH : Holds (Value.int .i64) w blk off zs.toArray) (hsz : zs.length ≤ 9223372036854775807) (hcap : zs.length ≤ cap) :
 Calls Tryz.prog 94 #[.slice (some ⟨blk, off, none⟩) zs.length cap] w fun e w' => e = .returned (.slice (some ⟨blk, off, none⟩) (Lib.compact zs).length cap) ∧ ∃ q, w' = putRow (Value.int .i64) (Sort.ahead w q) blk off (Lib.compact zs ++ List.replicate (zs.length - (Lib.compact zs).length) 0).toArray := Any.slices_Compact_int Tryz.QK blk off cap zs w hH hsz hcap
open Go.RowKit Go.Lib Go.Sort in
theorem Tryz.slices_Compact_int_empty (a : Option Addr) (cap : Nat) (w : World) :
 Calls Tryz.prog 94 #[.slice a 0 cap] w fun e w' => e = .returned (.slice a 0 cap) ∧ w' = w := Any.slices_Compact_int_empty Tryz.QK a cap w
open Go.RowKit Go.Sort in
theorem Tryz.slices_Sort_int_none (p : Option Addr) (cap : Nat) (w : World) :
 Calls Tryz.prog 92 #[.slice p 0 cap] w fun e w' => e = .returned (.tuple #[]) ∧ w' = w := Any.slices_Sort_int_none Tryz.XjY p cap w
end Go.Proofs
namespace Go.Proofs.YtphnphmbfogmlaaGreat.T
open Go.Lib
theorem Tp (zs : List Int) (x : Int) : x ∈ compact zs ↔ x ∈ zs := by
 unfold compact compactUpTo
 simp only [List.mem_map, List.mem_filter, List.mem_range]
 constructor
 ·rintro ⟨j, ⟨hj, _⟩, rfl⟩
  have : zs.toArray[j]! = zs[j] := by simp [hj]
  rw [this]; exact List.getElem_mem hj
 ·intro hx
  obtain ⟨i, hi, rfl⟩ := List.getElem_of_mem hx
  have key : ∀ n, n < zs.length → ∃ j, (j < zs.length ∧ keeps zs.toArray j = true) ∧ zs.toArray[j]! = zs.toArray[n]! := by
   intro n
   induction n with
   | zero => exact fun h => ⟨0, ⟨h, keeps_lt_one _ _ (by omega)⟩, rfl⟩
   | succ n ih =>
    intro h
    by_cases e : zs.toArray[n + 1]! = zs.toArray[n]!
    ·obtain ⟨j, hj, he⟩ := ih (by omega)
     exact ⟨j, hj, he.trans e.symm⟩
    ·exact ⟨n + 1, ⟨h, keeps_pos (by simpa using e)⟩, rfl⟩
  obtain ⟨j, hj, he⟩ := key i hi; refine ⟨j, hj, ?_⟩; rw [he]
  simp [hi]
def MR (zs : List Int) : List Int := compact (zs.mergeSort fun x y => decide (x ≤ y))
theorem Un (zs : List Int) : (MR zs).length ≤ zs.length := by
 unfold MR compact compactUpTo
 rw [List.length_map]; exact Nat.le_trans (List.length_filter_le _ _) (by simp)
end Go.Proofs.YtphnphmbfogmlaaGreat.T
namespace Go.Proofs.YtphnphmbfogmlaaGreat.Pr
open Go.RowKit Go.PW Go.PL Go.PM
attribute [local go_sem] Y3 Y4 YN YO Ya Yb Y5 Y6
set_option linter.unusedVariables false
set_option linter.unusedSimpArgs false
def Z {α : Type} (d : Kd α) (e : Nat) (w : World) (base : Nat) (ok : Nat → Prop) (v : Value) (xs : List α) : Prop :=
 (∀ k, v.ownBlock = some k → ok k) ∧ ∃ A c c', v = .slice A xs.length c ∧ xs.length ≤ c ∧ d.R e w base ok (.slice A xs.length c') xs
section
variable {α : Type} {d : Kd α} {e base : Nat} {ok ok1 ok' : Nat → Prop} {w w1 W W2 : World} {u v : Value} {xs ys : List α} {S : Nat → Prop}
theorem Xjt (h : Z d e w base ok v xs) : ∃ A c, v = .slice A xs.length c := by
 obtain ⟨h0, A, c, c', rfl, hc, hr⟩ := h; exact ⟨A, c, rfl⟩
theorem Xdl {A : Option Addr} {n c : Nat} (h : Z d e w base ok (.slice A n c) xs) : n = xs.length ∧ n ≤ c ∧ d.C w A xs.length xs := by
 obtain ⟨h0, A1, c1, c', he, hc, hr⟩ := h
 injection he with e1 e2 e3
 subst e1 e2 e3; exact ⟨rfl, hc, (Kd.X6 hr).2.2⟩
end
end Go.Proofs.YtphnphmbfogmlaaGreat.Pr
namespace Go.Proofs.YtphnphmbfogmlaaGreat.Pr
open Go.RowKit Go.PW Go.PL Go.PM Go.Proofs.YtphnphmbfogmlaaGreat.T Go.Sort
set_option linter.unusedVariables false
set_option linter.unusedSimpArgs false
theorem EG (A : Option Addr) (n c : Nat) (w : World) (hn : n ≤ c) (hm : n ≤ 9223372036854775807) :
 Calls Tryz.prog 93 #[.slice A n c] w fun e w' => e = .returned (.slice A n n) ∧ w = w' := by
 have hc := eq_true (show n ≤ c from hn)
 go_enter Tryz.func93, Tryz.ntmps93
 go_wp2
 go_ret
 exact ⟨rfl, rfl⟩
theorem XkR (a0 a1 a2 a3 a4 a5 a6 a7 : Int) (w : World) :
 Calls Tryz.prog 62 #[.agg #[.int .i64 a0, .int .i64 a1, .int .i64 a2, .int .i64 a3, .int .i64 a4, .int .i64 a5, .int .i64 a6, .int .i64 a7]] w fun e w' => e = .returned (.bool true) ∧ Below w.heap.size w w' := by
 go_enter Tryz.func62, Tryz.ntmps62
 go_wp2
 go_ret
 exact ⟨rfl, bl0 _⟩
theorem below_grown {B g : Nat} {w W w1 : World} (hB : Below B w W) (hsz : B ≤ W.heap.size) (hg : W.grownBy w1 (some g)) (hgB : B ≤ g) : Below B w w1 :=
 ⟨hg.os.trans hB.os, hg.tape.trans hB.tape, hg.output.trans hB.output, Nat.le_trans hB.size hg.size, fun i hi => (hg.block i (by omega) (fun h => by cases h; omega)).trans (hB.block i hi)⟩
theorem Kg {α : Type} {d : Kd α} {e base : Nat} {ok : Nat → Prop} {W w1 : World} {u v v1 : Value} {xs : List α} (h : d.R e W base (fun k => ok k ∧ some k ≠ v.ownBlock) u xs) (hg : W.grownBy w1 v.ownBlock) (hat : v1.ownBlock = v.ownBlock ∨ ∃ b, v1.ownBlock = some b ∧ W.heap.size ≤ b) : d.R e w1 base (fun k => ok k ∧ some k ≠ v1.ownBlock) u xs := by
 refine Kd.XZ (Kd.EH (Kd.ZQ h) (fun k hk hl => hg.block k hl hk.1.2)) (fun k hk => ⟨hk.1.1, ?_⟩)
 rcases hat with hat | ⟨b, hb, hle⟩
 ·rw [hat]; exact hk.1.2
 ·rw [hb]
  intro he
  injection he with he
  have := hk.2.2.1; omega
abbrev leI : Int → Int → Bool := fun x y => decide (x ≤ y)
theorem Tv (w0 W : World) (ok : Nat → Prop) (v : Value) (r : List Int) (hB : Below w0.heap.size w0 W) (h : Kd.R (Kd.int .i64) 3 W w0.heap.size ok v r) (hl : r.length < 4611686018427387904) :
 Calls Tryz.prog 92 #[v] W fun e w' => e = .returned (.tuple #[]) ∧ Kd.R (Kd.int .i64) 3 w' w0.heap.size ok v (r.mergeSort leI) ∧ Below w0.heap.size w0 w' := by
 obtain ⟨A, c, rfl⟩ := Kd.Y2 h
 cases hr : r with
 | nil =>
  subst hr; refine (Tryz.slices_Sort_int_none A c W).mono ?_; rintro e w' ⟨rfl, rfl⟩
  exact ⟨rfl, by simpa using h, hB⟩
 | cons x0 r0 =>
  rw [← hr]
  have hp : 0 < r.length := by rw [hr]; simp
  have ho := Kd.FT h
  rcases ho.2 with ⟨_, h0⟩ | ⟨g, cap, cur, hv, hb, hh, h1, h2, h3, h4⟩
  ·omega
  ·injection hv with e1 _ e3
   subst e1 e3; have hH : Holds (Value.int .i64) W g 0 r.toArray := holds_of_blockI hh (by simpa [encs] using h4); refine (Tryz.slices_Sort_int g 0 c r W hH (Array.getElem?_eq_some_iff.1 hh).1 hl).mono ?_; rintro e w' ⟨rfl, n, os, rfl⟩
   have hlen : (r.mergeSort leI).length = r.length := by simp
   refine ⟨rfl, ?_, below_grown hB hB.size (grownBy_sortedI _) hb⟩; have hq := ownsRow_sortedI (n := n) (os := os) hlen hb hh h1 h2 h3; refine Kd.EI ?_ h.1; rw [hlen]; exact hq
theorem NP (w0 W : World) (ok : Nat → Prop) (v : Value) (r : List Int) (hB : Below w0.heap.size w0 W) (h : Kd.R (Kd.int .i64) 3 W w0.heap.size ok v r) (hl : r.length ≤ 9223372036854775807) :
 Calls Tryz.prog 94 #[v] W fun e w' => ∃ A c, e = .returned (.slice A (Lib.compact r).length c) ∧ (Lib.compact r).length ≤ c ∧ Kd.R (Kd.int .i64) 3 w' w0.heap.size ok (.slice A (Lib.compact r).length c) (Lib.compact r) ∧ Below w0.heap.size w0 w' := by
 obtain ⟨A, c, rfl⟩ := Kd.Y2 h
 cases hr : r with
 | nil =>
  subst hr; refine (Tryz.slices_Compact_int_empty A c W).mono ?_; rintro e w' ⟨rfl, rfl⟩
  exact ⟨A, c, rfl, Nat.zero_le _, h, hB⟩
 | cons x0 r0 =>
  rw [← hr]
  have hp : 0 < r.length := by rw [hr]; simp
  have ho := Kd.FT h
  rcases ho.2 with ⟨_, h0⟩ | ⟨g, cap, cur, hv, hb, hh, h1, h2, h3, h4⟩
  ·omega
  ·injection hv with e1 _ e3
   subst e1 e3; have hH : Holds (Value.int .i64) W g 0 r.toArray := holds_of_blockI hh (by simpa [encs] using h4); refine (Tryz.slices_Compact_int g 0 c r W hH hl h1).mono ?_; rintro e w' ⟨rfl, q, rfl⟩; have hm := Lib.compact_length_le r
   have hlen : (Lib.compact r ++ List.replicate (r.length - (Lib.compact r).length) 0).length = r.length := by simp; omega
   have hg := grownBy_sortedI (w := W) (g := g) (n := q) (os := #[]) (Lib.compact r ++ List.replicate (r.length - (Lib.compact r).length) 0).toArray; have hq := ownsRow_sortedI (n := q) (os := #[]) hlen hb hh h1 h2 h3; rw [grow_empty] at hg hq; refine ⟨_, c, rfl, by omega, ?_, below_grown hB hB.size hg hb⟩; refine Kd.EI ?_ h.1
   rcases hq.2 with ⟨hn, _⟩ | ⟨g2, cap2, cur2, hv2, hb2, hh2, k1, k2, k3, k4⟩
   ·cases hn
   ·injection hv2 with f1 _ f3
    injection f1 with f1
    injection f1 with f1
    subst f1 f3; refine ⟨by simp [encs], .inr ⟨_, _, cur2, rfl, hb2, hh2, by omega, k2, k3, ?_⟩⟩; have k5 := congrArg (List.take (Lib.compact r).length) k4; rw [List.take_take, Nat.mul_one, Nat.min_eq_left hm, ← List.map_take, List.take_left] at k5; rw [Nat.mul_one]; exact k5
end Go.Proofs.YtphnphmbfogmlaaGreat.Pr
