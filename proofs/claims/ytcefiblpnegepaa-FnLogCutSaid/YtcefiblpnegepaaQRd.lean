import Derived.Test.YtcefiblpnegepaaProg
import Derived.Below
import Derived.Deep.Draws
import Derived.OwnWalk
import Derived.Laws.MakeOwn
import Derived.Laws.OwnMore
import Derived.Deep.OwnRows
import Derived.Tactics
import Derived.Laws.Slices
import Derived.WalkKit
import Derived.KernelRfl
import Derived.RowKit3
import Derived.Deep.LoopGhost
import Derived.Deep.QuietTactic
import Derived.BigQuiet
import Derived.Laws.Rows
import Derived.Outline
import Derived.Lib.Hide
import Derived.Test.YtcefiblpnegepaaQWMore
import Derived.Test.YtcefiblpnegepaaQPrK
import Derived.Test.YtcefiblpnegepaaQPrM
namespace Go.Proofs.Ytcefiblpnegepaa.T
open Go.RowKit Go.Proofs.YtcefiblpnegepaaW.PrintWords Go.Proofs.YtcefiblpnegepaaW.PrintMore
def inB (n lo hi : Int) : Bool := decide (lo ≤ n ∧ n ≤ hi)
theorem bcell {W w1 : World} (hb : Below W.heap.size W w1) : (∀ b o, b < W.heap.size → w1.cell? ⟨b, o, none⟩ = W.cell? ⟨b, o, none⟩) ∧ (∀ b o, b < W.heap.size → w1.frozen? ⟨b, o, none⟩ = W.frozen? ⟨b, o, none⟩) :=
  ⟨fun b o h => hb.cell (p := ⟨b, o, none⟩) h, fun b o h => hb.frozen (p := ⟨b, o, none⟩) h⟩
end Go.Proofs.Ytcefiblpnegepaa.T
namespace Go.Proofs.Ytcefiblpnegepaa.T
open Go.RowKit Go.Proofs.YtcefiblpnegepaaW.PrintWords Go.Proofs.Ytcefiblpnegepaa.Pr
set_option linter.unusedSimpArgs false
set_option linter.unusedVariables false
abbrev CI (w : World) (A : Option Addr) (l : List Int) : Prop := Kd.C (Kd.int .i64) w A l.length l
theorem CI_below {w w1 : World} {A : Option Addr} {l : List Int} (h : CI w A l) (hb : Below w.heap.size w w1) : CI w1 A l := Kd.C_below h hb
theorem bl0 {w : World} (o : Obj) : Below w.heap.size w (w.alloc o) := below_alloc (Below.refl _ _) o
theorem bl1 {w : World} (o : Obj) (n : Nat) : Below w.heap.size w ((w.alloc o).drewN n) := pw_below_drewN (below_alloc (Below.refl _ _) o) n
theorem bl3 {w : World} (o o1 o2 : Obj) : Below w.heap.size w (((w.alloc o).alloc o1).alloc o2) := below_alloc (below_alloc (below_alloc (Below.refl _ _) o) o1) o2
theorem wrap_small {x : Int} (h0 : -9223372036854775808 ≤ x) (h1 : x ≤ 9223372036854775807) : wrap64 x = x := by unfold wrap64; omega
def NewI (w : World) (base : Nat) (v : Value) (l : List Int) : Prop := Kd.R (Kd.int .i64) 3 w base (fun _ => True) v l
theorem NewI_reads {w : World} {base : Nat} {v : Value} {l : List Int} (h : NewI w base v l) : ∃ A c, v = .slice A l.length c ∧ l.length ≤ c ∧ CI w A l := Kd.R_reads h
end Go.Proofs.Ytcefiblpnegepaa.T
namespace Go.Proofs.Ytcefiblpnegepaa.T
open Go.RowKit Go.Proofs.YtcefiblpnegepaaW.PrintWords Go.Proofs.Ytcefiblpnegepaa.Pr
set_option linter.unusedSimpArgs false
set_option linter.unusedVariables false
theorem xor_i64_nat (a b : Nat) (ha : a < 9223372036854775808) (hb : b < 9223372036854775808) : bits .xor .i64 (a : Int) (b : Int) = ((a ^^^ b : Nat) : Int) := by
  have hx : a ^^^ b < 2 ^ 63 := Nat.xor_lt_two_pow (by omega) (by omega)
  have h1 : (BitVec.ofInt 64 (a : Int)).toNat = a := by
    rw [BitVec.ofInt_natCast, BitVec.toNat_ofNat]; exact Nat.mod_eq_of_lt (by omega)
  have h2 : (BitVec.ofInt 64 (b : Int)).toNat = b := by
    rw [BitVec.ofInt_natCast, BitVec.toNat_ofNat]; exact Nat.mod_eq_of_lt (by omega)
  show IntKind.i64.wrap ((BitVec.ofInt 64 (a : Int) ^^^ BitVec.ofInt 64 (b : Int)).toNat : Int) = _
  rw [BitVec.toNat_xor, h1, h2]; simp only [IntKind.wrap, IntKind.bits, IntKind.signed]
  simp
  omega
theorem xor_nonneg {a b : Int} (ha : 0 ≤ a) (ha2 : a ≤ 9223372036854775807) (hb : 0 ≤ b) (hb2 : b ≤ 9223372036854775807) : 0 ≤ bits .xor .i64 a b := by
  obtain ⟨n, rfl⟩ := Int.eq_ofNat_of_zero_le ha; obtain ⟨m, rfl⟩ := Int.eq_ofNat_of_zero_le hb; have h := xor_i64_nat n m (by omega) (by omega); rw [h]; omega
theorem tmod_range {a n : Int} (ha : 0 ≤ a) (hn : 1 ≤ n) : 0 ≤ Int.tmod a n ∧ Int.tmod a n < n := by
  rw [Int.tmod_eq_emod_of_nonneg ha]; exact ⟨Int.emod_nonneg _ (by omega), Int.emod_lt_of_pos _ (by omega)⟩
theorem rd_byte {b : List Int} (hb : ∀ x ∈ b, 0 ≤ x ∧ x ≤ 255) (i : Int) : 0 ≤ rd b i ∧ rd b i ≤ 255 := by
  unfold rd
  rw [List.getD_eq_getElem?_getD]
  cases h : b[i.toNat]? with
  | none => simp
  | some x => exact hb x (List.mem_of_getElem? h)
def Bytes (b : List Int) : Prop := ∀ x ∈ b, 0 ≤ x ∧ x ≤ 255
theorem pick_f (b : List Int) (hb : Bytes b) (hl : b.length ≤ 2000) (p n : Int) (h0 : 0 ≤ p) (hp : p ≤ 1099511627776) (hn : 1 ≤ n) : ∃ r, spec_l6Rd_pick.f 1 b p n = some (r, p + 1) ∧ 0 ≤ r ∧ r < n := by
  unfold spec_l6Rd_pick.f
  rw [if_neg (by omega), wrap_small (by omega) (by omega)]; simp only [spec_l6Rd_pick.j0]; rw [wrap_small (x := p + 1 - 1) (by omega) (by omega), show p + 1 - 1 = p by omega]
  by_cases hz : (b.length : Int) = 0
  · rw [if_pos (by simpa using hz)]
    exact ⟨0, rfl, by omega, by omega⟩
  · rw [if_neg (by simpa using hz)]
    by_cases hlt : p < (b.length : Int)
    · rw [if_pos hlt, if_pos h0, if_neg (by omega)]
      have hr := rd_byte hb p; rw [wrap_small (by omega) (by omega)]; have ht := tmod_range hr.1 hn; exact ⟨_, rfl, ht.1, ht.2⟩
    · have hpos : 1 ≤ (b.length : Int) := by omega
      have t1 := tmod_range h0 hpos; rw [if_neg hlt, if_neg hz, if_pos t1.1, if_pos t1.2]; rw [wrap_small (x := p * 7) (by omega) (by omega), wrap_small (x := p * 7 + 3) (by omega) (by omega)]; have t2 := tmod_range (a := p * 7 + 3) (by omega) hpos; rw [if_pos t2.1, if_pos t2.2, if_neg (by omega)]; generalize Int.tmod p (b.length : Int) = i1 at *; generalize Int.tmod (p * 7 + 3) (b.length : Int) = i2 at *; have r1 := rd_byte hb i1; have r2 := rd_byte hb i2; generalize rd b i1 = x1 at *; generalize rd b i2 = x2 at *
      have hd : 0 ≤ Int.tdiv p (b.length : Int) ∧ Int.tdiv p (b.length : Int) ≤ p := by
        rw [Int.tdiv_eq_ediv_of_nonneg h0]; exact ⟨Int.ediv_nonneg h0 (by omega), Int.ediv_le_self _ h0⟩
      generalize Int.tdiv p (b.length : Int) = q at *
      rw [wrap_small (x := x1) (by omega) (by omega), wrap_small (x := x1 * 131) (by omega) (by omega), wrap_small (x := x2) (by omega) (by omega), wrap_small (x := x2 * 1117) (by omega) (by omega), wrap_small (x := x1 * 131 + x2 * 1117) (by omega) (by omega),
        wrap_small (x := p * 29) (by omega) (by omega), wrap_small (x := x1 * 131 + x2 * 1117 + p * 29) (by omega) (by omega), wrap_small (x := q) (by omega) (by omega), wrap_small (x := q * 53) (by omega) (by omega), wrap_small (x := x1 * 131 + x2 * 1117 + p * 29 + q * 53) (by omega) (by omega)]
      have hs : 0 ≤ x1 * 131 + x2 * 1117 + p * 29 + q * 53 ∧ x1 * 131 + x2 * 1117 + p * 29 + q * 53 ≤ 9223372036854775807 := by omega
      generalize x1 * 131 + x2 * 1117 + p * 29 + q * 53 = s at *
      have hq : 0 ≤ Int.tdiv s 64 ∧ Int.tdiv s 64 ≤ s := by
        rw [Int.tdiv_eq_ediv_of_nonneg hs.1]; omega
      rw [wrap_small (x := Int.tdiv s 64) (by omega) (by omega)]; have ht := tmod_range (xor_nonneg hs.1 hs.2 hq.1 (by omega)) hn; exact ⟨_, rfl, ht.1, ht.2⟩
theorem pick_k (b : List Int) (hb : Bytes b) (hl : b.length ≤ 2000) (p n : Int) (h0 : 0 ≤ p) (hp : p ≤ 1099511627776) (hn : 1 ≤ n) (k : Nat) : ∃ r, spec_l6Rd_pick.f (k + 1) b p n = some (r, p + 1) ∧ 0 ≤ r ∧ r < n := by
  obtain ⟨r, hr, h1, h2⟩ := pick_f b hb hl p n h0 hp hn; refine ⟨r, ?_, h1, h2⟩
  induction k with
  | zero => exact hr
  | succ k ih => exact spec_l6Rd_pick.mono _ _ _ _ _ ih
end Go.Proofs.Ytcefiblpnegepaa.T
