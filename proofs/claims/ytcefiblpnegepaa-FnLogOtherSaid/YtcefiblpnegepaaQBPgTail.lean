import Derived.Shelf.Sort.Plain
import Derived.Ground.Names2Prog
import Derived.Shelf.Slices.CompactI
import Derived.Shelf.Slices.In.SortNone
import Derived.Test.YtcefiblpnegepaaProg
import Derived.Lib.SlicesCompact
import Derived.Sort.OwnSortedInts
import Derived.Lib.RowBridge
import Derived.Test.YtcefiblpnegepaaQBByq
import Derived.Test.YtcefiblpnegepaaQBWLogB
import Derived.Test.YtcefiblpnegepaaQBSq
import Derived.Test.YtcefiblpnegepaaQBSx
import Derived.Test.YtcefiblpnegepaaQBOks
namespace Go.Proofs
open Go.Shelf
def Try.XaE : Go.Shelf.Ren := ⟨fun | 189 => 120 | 125 => 130 | 257 => 129 | 128 => 150 | 129 => 151 | 294 => 141 | 295 => 142 | 296 => 143 | 297 => 144 | 298 => 145 | 299 => 146 | 216 => 147 | 300 => 148 | 301 => 149 | 328 => 158 | 329 => 159 | 330 => 160 | 331 => 161 | 332 => 162 | 215 => 163 | 343 => 166 | n => n, fun | 28 => 23 | 3 => 3 | 46 => 115 | 0 => 0 | 51 => 133 | 53 => 135 | 4 => 4 | 183 => 125 | 182 => 124 | 131 => 130 | 5 => 5 | 9 => 9 | 218 => 140 | 222 => 144 | 228 => 146 | 229 => 147 | n => n, fun | n => n⟩
theorem Try.Xdt : Go.Proofs.Lays.n189 Try.prog Try.XaE := {
  mixed := by kernel_rfl
  f125 := Try.func130.trans (congrArg some zb13)
  f128 := Try.func150.trans (congrArg some zb13)
  f129 := Try.func151.trans (congrArg some zb13)
  f189 := Try.func120.trans (congrArg some zb13)
  f215 := Try.func163.trans (congrArg some zb13)
  f216 := Try.func147.trans (congrArg some zb13)
  f257 := Try.func129.trans (congrArg some zb13)
  f294 := Try.func141.trans (congrArg some zb13)
  f295 := Try.func142.trans (congrArg some zb13)
  f296 := Try.func143.trans (congrArg some zb13)
  f297 := Try.func144.trans (congrArg some zb13)
  f298 := Try.func145.trans (congrArg some zb13)
  f299 := Try.func146.trans (congrArg some zb13)
  f300 := Try.func148.trans (congrArg some zb13)
  f301 := Try.func149.trans (congrArg some zb13)
  f328 := Try.func158.trans (congrArg some zb13)
  f329 := Try.func159.trans (congrArg some zb13)
  f330 := Try.func160.trans (congrArg some zb13)
  f331 := Try.func161.trans (congrArg some zb13)
  f332 := Try.func162.trans (congrArg some zb13)
  f343 := Try.func166.trans (congrArg some zb13)
  t0 := Try.underlying0
  a0 := Try.isAgg0
  z0 := Try.sizeOf0
  v0 := Try.zeroValue0
  t3 := Try.underlying3
  a3 := Try.isAgg3
  z3 := Try.sizeOf3
  v3 := Try.zeroValue3
  t4 := Try.underlying4
  a4 := Try.isAgg4
  z4 := Try.sizeOf4
  v4 := Try.zeroValue4
  t5 := Try.underlying5
  a5 := Try.isAgg5
  z5 := Try.sizeOf5
  v5 := Try.zeroValue5
  t9 := Try.underlying9
  a9 := Try.isAgg9
  z9 := Try.sizeOf9
  v9 := Try.zeroValue9
  t28 := Try.underlying23
  a28 := Try.isAgg23
  z28 := Try.sizeOf23
  v28 := Try.zeroValue23
  t46 := Try.underlying115
  a46 := Try.isAgg115
  z46 := Try.sizeOf115
  v46 := Try.zeroValue115
  t51 := Try.underlying133
  a51 := Try.isAgg133
  z51 := Try.sizeOf133
  v51 := Try.zeroValue133
  t53 := Try.underlying135
  a53 := Try.isAgg135
  z53 := Try.sizeOf135
  v53 := Try.zeroValue135
  t131 := Try.underlying130
  a131 := Try.isAgg130
  z131 := Try.sizeOf130
  v131 := Try.zeroValue130
  t182 := Try.underlying124
  a182 := Try.isAgg124
  z182 := Try.sizeOf124
  v182 := Try.zeroValue124
  t183 := Try.underlying125
  a183 := Try.isAgg125
  z183 := Try.sizeOf125
  v183 := Try.zeroValue125
  t218 := Try.underlying140
  a218 := Try.isAgg140
  z218 := Try.sizeOf140
  v218 := Try.zeroValue140
  t222 := Try.underlying144
  a222 := Try.isAgg144
  z222 := Try.sizeOf144
  v222 := Try.zeroValue144
  t228 := Try.underlying146
  a228 := Try.isAgg146
  z228 := Try.sizeOf146
  v228 := Try.zeroValue146
  t229 := Try.underlying147
  a229 := Try.isAgg147
  z229 := Try.sizeOf147
  v229 := Try.zeroValue147 }
open Go.Sort Go.RowKit in
theorem Try.slices_Sort_int (blk off cap : Nat) (zs : List Int) (w : World) (hH : Holds (Value.int .i64) w blk off zs.toArray) (hblk : blk < w.heap.size) (hsz : zs.length < 4611686018427387904) :
    Calls Try.prog 120 #[.slice (some ⟨blk, off, none⟩) zs.length cap] w fun e w' =>
      e = .returned (.tuple #[]) ∧ ∃ n os, w' = grow (putRow (Value.int .i64) (Sort.ahead w n) blk off (zs.mergeSort fun x y => decide (x ≤ y)).toArray) os := Any.slices_Sort_int Try.Xdt blk off cap zs w hH hblk hsz
def Try.Oa : Go.Shelf.Ren := ⟨fun | 20 => 122 | n => n, fun | 22 => 23 | 3 => 3 | 4 => 4 | 0 => 0 | n => n, fun | n => n⟩
theorem Try.OU : Go.Proofs.Lays2.n20 Try.prog Try.Oa := {
  mixed := by kernel_rfl
  f20 := Try.func122.trans (congrArg some zb13)
  t0 := Try.underlying0
  a0 := Try.isAgg0
  z0 := Try.sizeOf0
  v0 := Try.zeroValue0
  t3 := Try.underlying3
  a3 := Try.isAgg3
  z3 := Try.sizeOf3
  v3 := Try.zeroValue3
  t4 := Try.underlying4
  a4 := Try.isAgg4
  z4 := Try.sizeOf4
  v4 := Try.zeroValue4
  t22 := Try.underlying23
  a22 := Try.isAgg23
  z22 := Try.sizeOf23
  v22 := Try.zeroValue23
  i3 := by kernel_rfl }
open Go.RowKit Go.Lib Go.Sort in
theorem Try.slices_Compact_int (blk off cap : Nat) (zs : List Int) (w : World) (hH : Holds (Value.int .i64) w blk off zs.toArray) (hsz : zs.length ≤ 9223372036854775807) (hcap : zs.length ≤ cap) :
    Calls Try.prog 122 #[.slice (some ⟨blk, off, none⟩) zs.length cap] w fun e w' => e = .returned (.slice (some ⟨blk, off, none⟩) (Lib.compact zs).length cap) ∧ ∃ q, w' = putRow (Value.int .i64) (Sort.ahead w q) blk off (Lib.compact zs ++ List.replicate (zs.length - (Lib.compact zs).length) 0).toArray := Any.slices_Compact_int Try.OU blk off cap zs w hH hsz hcap
open Go.RowKit Go.Lib Go.Sort in
theorem Try.slices_Compact_int_empty (a : Option Addr) (cap : Nat) (w : World) :
    Calls Try.prog 122 #[.slice a 0 cap] w fun e w' => e = .returned (.slice a 0 cap) ∧ w' = w := Any.slices_Compact_int_empty Try.OU a cap w
open Go.RowKit Go.Sort in
theorem Try.slices_Sort_int_none (p : Option Addr) (cap : Nat) (w : World) :
    Calls Try.prog 120 #[.slice p 0 cap] w fun e w' => e = .returned (.tuple #[]) ∧ w' = w := Any.slices_Sort_int_none Try.Xdt p cap w
end Go.Proofs
namespace Go.Proofs.Ytcefiblpnegepaa.T
open Go.Lib
theorem XaF (zs : List Int) (x : Int) : x ∈ compact zs ↔ x ∈ zs := by
  unfold compact compactUpTo
  simp only [List.mem_map, List.mem_filter, List.mem_range]
  constructor
  · rintro ⟨j, ⟨hj, _⟩, rfl⟩
    have : zs.toArray[j]! = zs[j] := by simp [hj]
    rw [this]; exact List.getElem_mem hj
  · intro hx
    obtain ⟨i, hi, rfl⟩ := List.getElem_of_mem hx
    have key : ∀ n, n < zs.length → ∃ j, (j < zs.length ∧ keeps zs.toArray j = true) ∧ zs.toArray[j]! = zs.toArray[n]! := by
      intro n
      induction n with
      | zero => exact fun h => ⟨0, ⟨h, keeps_lt_one _ _ (by omega)⟩, rfl⟩
      | succ n ih =>
        intro h
        by_cases e : zs.toArray[n + 1]! = zs.toArray[n]!
        · obtain ⟨j, hj, he⟩ := ih (by omega)
          exact ⟨j, hj, he.trans e.symm⟩
        · exact ⟨n + 1, ⟨h, keeps_pos (by simpa using e)⟩, rfl⟩
    obtain ⟨j, hj, he⟩ := key i hi; refine ⟨j, hj, ?_⟩; rw [he]
    simp [hi]
theorem XbI (zs : List Int) (h : List.Pairwise (fun a b => a ≤ b) zs) : List.Pairwise (fun a b => a < b) (compact zs) := by
  unfold compact compactUpTo
  rw [List.pairwise_map, List.pairwise_iff_getElem] at *; intro i j hi hj hij; have hs : List.Pairwise (fun a b => a < b) ((List.range zs.length).filter (keeps zs.toArray)) := List.Pairwise.filter _ List.pairwise_lt_range; have h1 := List.pairwise_iff_getElem.mp hs i j hi hj hij; generalize ea : ((List.range zs.length).filter (keeps zs.toArray))[i] = a at h1; generalize eb : ((List.range zs.length).filter (keeps zs.toArray))[j] = b at h1; have ma : a ∈ (List.range zs.length).filter (keeps zs.toArray) := ea ▸ List.getElem_mem hi; have mb : b ∈ (List.range zs.length).filter (keeps zs.toArray) := eb ▸ List.getElem_mem hj; simp only [List.mem_filter, List.mem_range] at ma mb; have kb := mb.2
  unfold keeps at kb
  simp only [decide_eq_true_eq] at kb
  have hb0 : b ≠ 0 := by omega
  have hne := kb.resolve_left hb0
  have g : ∀ n (hn : n < zs.length), zs.toArray[n]! = zs[n] := fun n hn => by simp [hn]
  rw [g b mb.1, g (b - 1) (by omega)] at hne; rw [g a ma.1, g b mb.1]; have h2 : zs[b - 1] ≤ zs[b] := h (b - 1) b (by omega) mb.1 (by omega)
  have h3 : zs[a] ≤ zs[b - 1] := by
    by_cases e : a = b - 1
    · subst e
      exact Int.le_refl _
    · exact h a (b - 1) ma.1 (by omega) (by omega)
  omega
theorem OV : ∀ (a b : List Int), List.Pairwise (fun x y => x < y) a → List.Pairwise (fun x y => x < y) b → (∀ x, x ∈ a ↔ x ∈ b) → a = b
  | [], [], _, _, _ => rfl
  | [], y :: b, _, _, h => absurd ((h y).mpr (by simp)) (by simp)
  | x :: a, [], _, _, h => absurd ((h x).mp (by simp)) (by simp)
  | x :: a, y :: b, ha, hb, h => by
    rw [List.pairwise_cons] at ha hb
    have e : x = y := by
      have h1 := (h x).mp (by simp); have h2 := (h y).mpr (by simp); simp only [List.mem_cons] at h1 h2
      rcases h1 with h1 | h1
      · exact h1
      · rcases h2 with h2 | h2
        · exact h2.symm
        · have := ha.1 _ h2
          have := hb.1 _ h1; omega
    subst e
    congr 1
    refine OV a b ha.2 hb.2 fun z => ?_
    have hz := h z; simp only [List.mem_cons] at hz
    constructor
    · intro hm
      rcases hz.mp (.inr hm) with e | e
      · have := ha.1 _ hm
        omega
      · exact e
    · intro hm
      rcases hz.mpr (.inr hm) with e | e
      · have := hb.1 _ hm
        omega
      · exact e
def BZ (zs : List Int) : List Int := compact (zs.mergeSort fun x y => decide (x ≤ y))
theorem XgY (zs : List Int) (h : ∀ x ∈ zs, 0 ≤ x ∧ x < 5) : BZ zs = ([0, 1, 2, 3, 4] : List Int).filter (fun p => zs.any (fun x => x == p)) := by
  have hs : List.Pairwise (fun a b : Int => a ≤ b) (zs.mergeSort fun x y => decide (x ≤ y)) := by
    have := List.pairwise_mergeSort (le := fun x y : Int => decide (x ≤ y)) zb151 zb151 zs; exact this.imp (by simp)
  refine OV _ _ (XbI _ hs) (List.Pairwise.filter _ (by decide)) fun x => ?_
  unfold BZ
  rw [XaF, List.mem_mergeSort, List.mem_filter, List.any_eq_true]
  constructor
  · intro hx
    have := h x hx; refine ⟨?_, x, hx, by simp⟩
    have h5 : x = 0 ∨ x = 1 ∨ x = 2 ∨ x = 3 ∨ x = 4 := by omega
    simpa using h5
  · rintro ⟨_, y, hy, e⟩
    rw [beq_iff_eq] at e; exact e ▸ hy
theorem XdU (zs : List Int) : (BZ zs).length ≤ zs.length := by
  unfold BZ compact compactUpTo
  rw [List.length_map]; exact Nat.le_trans (List.length_filter_le _ _) (by simp)
end Go.Proofs.Ytcefiblpnegepaa.T
namespace Go.Proofs.Ytcefiblpnegepaa.Pr
open Go.RowKit Go.PW Go.PL Go.PM
attribute [local go_sem] Y3 Y4 YV YW Yk Yl Y5 Y6
set_option linter.unusedVariables false
set_option linter.unusedSimpArgs false
def Z {α : Type} (d : Kd α) (e : Nat) (w : World) (base : Nat) (ok : Nat → Prop) (v : Value) (xs : List α) : Prop :=
  (∀ k, v.ownBlock = some k → ok k) ∧ ∃ A c c', v = .slice A xs.length c ∧ xs.length ≤ c ∧ d.R e w base ok (.slice A xs.length c') xs
section
variable {α : Type} {d : Kd α} {e base : Nat} {ok ok1 ok' : Nat → Prop} {w w1 W W2 : World} {u v : Value} {xs ys : List α} {S : Nat → Prop}
theorem Xpq (h : d.R e w base ok v xs) : Z d e w base ok v xs := by
  obtain ⟨A, c, he, hc, _⟩ := Kd.Nb h; subst he; exact ⟨h.1, A, c, c, rfl, hc, h⟩
theorem Xd0 (h : Z d e w base ok v xs) (f : ∀ v', v'.ownBlock = v.ownBlock → d.R e w base ok v' xs → d.R e w1 base ok' v' xs) (g : ∀ k, ok k → v.ownBlock = some k → ok' k) : Z d e w1 base ok' v xs := by
  obtain ⟨h0, A, c, c', rfl, hc, hr⟩ := h; exact ⟨fun k hk => g k (h0 k hk) hk, A, c, c', rfl, hc, f _ (by cases A <;> rfl) hr⟩
theorem Xg4 (h : Z d e w base ok v xs) (hok : ∀ k, ok k → ok' k) : Z d e w base ok' v xs := Xd0 h (fun _ _ r => Kd.XN r hok) (fun k hk _ => hok k hk)
theorem Ca (h : Z d e w base ok v xs) (hb : Below w.heap.size w w1) : Z d e w1 base ok v xs := Xd0 h (fun _ _ r => Kd.Xz r hb) (fun k hk _ => hk)
theorem WB {o : Obj} (h : Z d e w base ok v xs) : Z d e (w.alloc o) base ok v xs := Ca h (Xd (Below.refl _ _) o)
theorem Lt (h : Z d e w base ok v xs) : Z d e w.drew base ok v xs := Ca h (XX (Below.refl _ _))
theorem WC {m : Nat} (h : Z d e w base ok v xs) : Z d e (w.drewN m) base ok v xs := Ca h (XF (Below.refl _ _) m)
theorem KU {base' : Nat} (h : Z d e w base ok v xs) (hb : base' ≤ base) : Z d e w base' ok v xs := by
  obtain ⟨h0, A, c, c', rfl, hc, hr⟩ := h; exact ⟨h0, A, c, c', rfl, hc, Kd.XT hr hb⟩
theorem XlN (h : Z d e w base ok v xs) : ∃ v', v'.ownBlock = v.ownBlock ∧ d.R e w base ok v' xs := by
  obtain ⟨h0, A, c, c', rfl, hc, hr⟩ := h; exact ⟨_, (by cases A <;> rfl), hr⟩
theorem Sq (h : Z d e w base ok v xs) : ∀ k, v.ownBlock = some k → base ≤ k := by
  obtain ⟨v', e1, hr⟩ := XlN h
  exact fun k hk => Kd.YR hr k (e1.trans hk)
theorem XdY (h : Z d e w base ok v xs) : ∀ k, v.ownBlock = some k → k < w.heap.size := by
  obtain ⟨v', e1, hr⟩ := XlN h
  exact fun k hk => Kd.J2 hr k (e1.trans hk)
theorem Um (h : Z d e w base ok v xs) : ∃ A c, v = .slice A xs.length c := by
  obtain ⟨h0, A, c, c', rfl, hc, hr⟩ := h; exact ⟨A, c, rfl⟩
theorem VK {A : Option Addr} {n c : Nat} (h : Z d e w base ok (.slice A n c) xs) : n = xs.length ∧ n ≤ c ∧ d.C w A xs.length xs := by
  obtain ⟨h0, A1, c1, c', he, hc, hr⟩ := h
  injection he with e1 e2 e3
  subst e1 e2 e3; exact ⟨rfl, hc, (Kd.Xi hr).2.2⟩
theorem Wu (hu : Z d e W base ok u xs) (hbase : ∀ k, v.ownBlock = some k → W.heap.size ≤ k) (hb : Below W.heap.size W w1) : Z d e w1 base (fun k => ok k ∧ some k ≠ v.ownBlock) u xs :=
  Xd0 hu (fun _ _ r => Kd.YT r hbase hb) (fun k hk e => ⟨hk, fun e2 => by have := hbase k e2.symm; have := XdY hu k e; omega⟩)
theorem Wv (h : Z d e w1 W.heap.size ok v xs) (hlt : ∀ k, u.ownBlock = some k → k < W.heap.size) : Z d e w1 W.heap.size (fun k => ok k ∧ some k ≠ u.ownBlock) v xs :=
  Xd0 h (fun _ _ r => Kd.Jc r hlt) (fun k hk e => ⟨hk, fun e2 => by have := hlt k e2.symm; have := Sq h k e; omega⟩)
end
end Go.Proofs.Ytcefiblpnegepaa.Pr
namespace Go.Proofs.Ytcefiblpnegepaa.Pr
open Go.RowKit Go.PW Go.PL Go.PM Go.Proofs.Ytcefiblpnegepaa.T Go.Sort
set_option linter.unusedVariables false
set_option linter.unusedSimpArgs false
theorem Xb9 (A : Option Addr) (n c : Nat) (w : World) (hn : n ≤ c) (hm : n ≤ 9223372036854775807) :
    Calls Try.prog 121 #[.slice A n c] w fun e w' => e = .returned (.slice A n n) ∧ w = w' := by
  have hc := eq_true (show n ≤ c from hn)
  go_enter Try.func121, Try.ntmps121
  go_wp2
  go_ret
  exact ⟨rfl, rfl⟩
theorem XdT (a0 a1 a2 a3 a4 a5 a6 a7 : Int) (w : World) :
    Calls Try.prog 110 #[.agg #[.int .i64 a0, .int .i64 a1, .int .i64 a2, .int .i64 a3, .int .i64 a4, .int .i64 a5, .int .i64 a6, .int .i64 a7]] w fun e w' => e = .returned (.bool true) ∧ Below w.heap.size w w' := by
  go_enter Try.func110, Try.ntmps110
  go_wp2
  go_ret
  exact ⟨rfl, bl0 _⟩
theorem below_grown {B g : Nat} {w W w1 : World} (hB : Below B w W) (hsz : B ≤ W.heap.size) (hg : W.grownBy w1 (some g)) (hgB : B ≤ g) : Below B w w1 :=
  ⟨hg.os.trans hB.os, hg.tape.trans hB.tape, hg.output.trans hB.output, Nat.le_trans hB.size hg.size, fun i hi => (hg.block i (by omega) (fun h => by cases h; omega)).trans (hB.block i hi)⟩
theorem Fj {α : Type} {d : Kd α} {e base : Nat} {ok : Nat → Prop} {W w1 : World} {u v v1 : Value} {xs : List α} (h : d.R e W base (fun k => ok k ∧ some k ≠ v.ownBlock) u xs) (hg : W.grownBy w1 v.ownBlock) (hat : v1.ownBlock = v.ownBlock ∨ ∃ b, v1.ownBlock = some b ∧ W.heap.size ≤ b) : d.R e w1 base (fun k => ok k ∧ some k ≠ v1.ownBlock) u xs := by
  refine Kd.XN (Kd.L8 (Kd.Zv h) (fun k hk hl => hg.block k hl hk.1.2)) (fun k hk => ⟨hk.1.1, ?_⟩)
  rcases hat with hat | ⟨b, hb, hle⟩
  · rw [hat]; exact hk.1.2
  · rw [hb]
    intro he
    injection he with he
    have := hk.2.2.1; omega
abbrev leI : Int → Int → Bool := fun x y => decide (x ≤ y)
theorem Xa4 (w0 W : World) (ok : Nat → Prop) (v : Value) (r : List Int) (hB : Below w0.heap.size w0 W) (h : Kd.R (Kd.int .i64) 3 W w0.heap.size ok v r) (hl : r.length < 4611686018427387904) :
    Calls Try.prog 120 #[v] W fun e w' => e = .returned (.tuple #[]) ∧ Kd.R (Kd.int .i64) 3 w' w0.heap.size ok v (r.mergeSort leI) ∧ Below w0.heap.size w0 w' := by
  obtain ⟨A, c, rfl⟩ := Kd.Xx h
  cases hr : r with
  | nil =>
    subst hr; refine (Try.slices_Sort_int_none A c W).mono ?_; rintro e w' ⟨rfl, rfl⟩
    exact ⟨rfl, by simpa using h, hB⟩
  | cons x0 r0 =>
    rw [← hr]
    have hp : 0 < r.length := by rw [hr]; simp
    have ho := Kd.KV h
    rcases ho.2 with ⟨_, h0⟩ | ⟨g, cap, cur, hv, hb, hh, h1, h2, h3, h4⟩
    · omega
    · injection hv with e1 _ e3
      subst e1 e3; have hH : Holds (Value.int .i64) W g 0 r.toArray := holds_of_blockI hh (by simpa [encs] using h4); refine (Try.slices_Sort_int g 0 c r W hH (Array.getElem?_eq_some_iff.1 hh).1 hl).mono ?_; rintro e w' ⟨rfl, n, os, rfl⟩
      have hlen : (r.mergeSort leI).length = r.length := by simp
      refine ⟨rfl, ?_, below_grown hB hB.size (grownBy_sortedI _) hb⟩; have hq := ownsRow_sortedI (n := n) (os := os) hlen hb hh h1 h2 h3; refine Kd.Ec ?_ h.1; rw [hlen]; exact hq
theorem Ea (w0 W : World) (ok : Nat → Prop) (v : Value) (r : List Int) (hB : Below w0.heap.size w0 W) (h : Kd.R (Kd.int .i64) 3 W w0.heap.size ok v r) (hl : r.length ≤ 9223372036854775807) :
    Calls Try.prog 122 #[v] W fun e w' => ∃ A c, e = .returned (.slice A (Lib.compact r).length c) ∧ (Lib.compact r).length ≤ c ∧ Kd.R (Kd.int .i64) 3 w' w0.heap.size ok (.slice A (Lib.compact r).length c) (Lib.compact r) ∧ Below w0.heap.size w0 w' := by
  obtain ⟨A, c, rfl⟩ := Kd.Xx h
  cases hr : r with
  | nil =>
    subst hr; refine (Try.slices_Compact_int_empty A c W).mono ?_; rintro e w' ⟨rfl, rfl⟩
    exact ⟨A, c, rfl, Nat.zero_le _, h, hB⟩
  | cons x0 r0 =>
    rw [← hr]
    have hp : 0 < r.length := by rw [hr]; simp
    have ho := Kd.KV h
    rcases ho.2 with ⟨_, h0⟩ | ⟨g, cap, cur, hv, hb, hh, h1, h2, h3, h4⟩
    · omega
    · injection hv with e1 _ e3
      subst e1 e3; have hH : Holds (Value.int .i64) W g 0 r.toArray := holds_of_blockI hh (by simpa [encs] using h4); refine (Try.slices_Compact_int g 0 c r W hH hl h1).mono ?_; rintro e w' ⟨rfl, q, rfl⟩; have hm := Lib.compact_length_le r
      have hlen : (Lib.compact r ++ List.replicate (r.length - (Lib.compact r).length) 0).length = r.length := by simp; omega
      have hg := grownBy_sortedI (w := W) (g := g) (n := q) (os := #[]) (Lib.compact r ++ List.replicate (r.length - (Lib.compact r).length) 0).toArray; have hq := ownsRow_sortedI (n := q) (os := #[]) hlen hb hh h1 h2 h3; rw [grow_empty] at hg hq; refine ⟨_, c, rfl, by omega, ?_, below_grown hB hB.size hg hb⟩; refine Kd.Ec ?_ h.1
      rcases hq.2 with ⟨hn, _⟩ | ⟨g2, cap2, cur2, hv2, hb2, hh2, k1, k2, k3, k4⟩
      · cases hn
      · injection hv2 with f1 _ f3
        injection f1 with f1
        injection f1 with f1
        subst f1 f3; refine ⟨by simp [encs], .inr ⟨_, _, cur2, rfl, hb2, hh2, by omega, k2, k3, ?_⟩⟩; have k5 := congrArg (List.take (Lib.compact r).length) k4; rw [List.take_take, Nat.mul_one, Nat.min_eq_left hm, ← List.map_take, List.take_left] at k5; rw [Nat.mul_one]; exact k5
end Go.Proofs.Ytcefiblpnegepaa.Pr
