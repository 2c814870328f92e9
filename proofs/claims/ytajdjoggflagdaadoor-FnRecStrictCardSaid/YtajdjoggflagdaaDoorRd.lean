/- The reader of a code: what pick hands back. The number of picks stays small, so nothing wraps. -/
import Derived.Test.YtajdjoggflagdaaDoorIntS
import Derived.Test.YtajdjoggflagdaaDoorPrM
namespace Go.Proofs.YtajdjoggflagdaaDoor.T
open Go.RowKit Go.Proofs.YtajdjoggflagdaaDoorW.PrintWords Go.Proofs.YtajdjoggflagdaaDoor.Pr
set_option linter.unusedSimpArgs false
set_option linter.unusedVariables false

theorem xor_i64_nat (a b : Nat) (ha : a < 9223372036854775808) (hb : b < 9223372036854775808) : bits .xor .i64 (a : Int) (b : Int) = ((a ^^^ b : Nat) : Int) := by
  have hx : a ^^^ b < 2 ^ 63 := Nat.xor_lt_two_pow (by omega) (by omega)
  have h1 : (BitVec.ofInt 64 (a : Int)).toNat = a := by
    rw [BitVec.ofInt_natCast, BitVec.toNat_ofNat]; exact Nat.mod_eq_of_lt (by omega)
  have h2 : (BitVec.ofInt 64 (b : Int)).toNat = b := by
    rw [BitVec.ofInt_natCast, BitVec.toNat_ofNat]; exact Nat.mod_eq_of_lt (by omega)
  show IntKind.i64.wrap ((BitVec.ofInt 64 (a : Int) ^^^ BitVec.ofInt 64 (b : Int)).toNat : Int) = _
  rw [BitVec.toNat_xor, h1, h2]
  simp only [IntKind.wrap, IntKind.bits, IntKind.signed]
  simp
  omega
theorem xor_nonneg {a b : Int} (ha : 0 ≤ a) (ha2 : a ≤ 9223372036854775807) (hb : 0 ≤ b) (hb2 : b ≤ 9223372036854775807) : 0 ≤ bits .xor .i64 a b := by
  obtain ⟨n, rfl⟩ := Int.eq_ofNat_of_zero_le ha
  obtain ⟨m, rfl⟩ := Int.eq_ofNat_of_zero_le hb
  have h := xor_i64_nat n m (by omega) (by omega)
  rw [h]
  omega
theorem tmod_range {a n : Int} (ha : 0 ≤ a) (hn : 1 ≤ n) : 0 ≤ Int.tmod a n ∧ Int.tmod a n < n := by
  rw [Int.tmod_eq_emod_of_nonneg ha]
  exact ⟨Int.emod_nonneg _ (by omega), Int.emod_lt_of_pos _ (by omega)⟩
theorem rd_byte {b : List Int} (hb : ∀ x ∈ b, 0 ≤ x ∧ x ≤ 255) (i : Int) : 0 ≤ rd b i ∧ rd b i ≤ 255 := by
  unfold rd
  rw [List.getD_eq_getElem?_getD]
  cases h : b[i.toNat]? with
  | none => simp
  | some x => exact hb x (List.mem_of_getElem? h)
/-- A code's bytes. -/
def Bytes (b : List Int) : Prop := ∀ x ∈ b, 0 ≤ x ∧ x ≤ 255
theorem pick_f (b : List Int) (hb : Bytes b) (hl : b.length ≤ 2000) (p n : Int) (h0 : 0 ≤ p) (hp : p ≤ 1099511627776) (hn : 1 ≤ n) : ∃ r, spec_l6Rd_pick.f 1 b p n = some (r, p + 1) ∧ 0 ≤ r ∧ r < n := by
  unfold spec_l6Rd_pick.f
  rw [if_neg (by omega), wrap_small (by omega) (by omega)]
  simp only [spec_l6Rd_pick.j0]
  rw [wrap_small (x := p + 1 - 1) (by omega) (by omega), show p + 1 - 1 = p by omega]
  by_cases hz : (b.length : Int) = 0
  · rw [if_pos (by simpa using hz)]
    exact ⟨0, rfl, by omega, by omega⟩
  · rw [if_neg (by simpa using hz)]
    by_cases hlt : p < (b.length : Int)
    · rw [if_pos hlt, if_pos h0, if_neg (by omega)]
      have hr := rd_byte hb p
      rw [wrap_small (by omega) (by omega)]
      have ht := tmod_range hr.1 hn
      exact ⟨_, rfl, ht.1, ht.2⟩
    · have hpos : 1 ≤ (b.length : Int) := by omega
      have t1 := tmod_range h0 hpos
      rw [if_neg hlt, if_neg hz, if_pos t1.1, if_pos t1.2]
      rw [wrap_small (x := p * 7) (by omega) (by omega), wrap_small (x := p * 7 + 3) (by omega) (by omega)]
      have t2 := tmod_range (a := p * 7 + 3) (by omega) hpos
      rw [if_pos t2.1, if_pos t2.2, if_neg (by omega)]
      generalize Int.tmod p (b.length : Int) = i1 at *
      generalize Int.tmod (p * 7 + 3) (b.length : Int) = i2 at *
      have r1 := rd_byte hb i1
      have r2 := rd_byte hb i2
      generalize rd b i1 = x1 at *
      generalize rd b i2 = x2 at *
      have hd : 0 ≤ Int.tdiv p (b.length : Int) ∧ Int.tdiv p (b.length : Int) ≤ p := by
        rw [Int.tdiv_eq_ediv_of_nonneg h0]
        exact ⟨Int.ediv_nonneg h0 (by omega), Int.ediv_le_self _ h0⟩
      generalize Int.tdiv p (b.length : Int) = q at *
      rw [wrap_small (x := x1) (by omega) (by omega), wrap_small (x := x1 * 131) (by omega) (by omega), wrap_small (x := x2) (by omega) (by omega), wrap_small (x := x2 * 1117) (by omega) (by omega), wrap_small (x := x1 * 131 + x2 * 1117) (by omega) (by omega),
        wrap_small (x := p * 29) (by omega) (by omega), wrap_small (x := x1 * 131 + x2 * 1117 + p * 29) (by omega) (by omega), wrap_small (x := q) (by omega) (by omega), wrap_small (x := q * 53) (by omega) (by omega), wrap_small (x := x1 * 131 + x2 * 1117 + p * 29 + q * 53) (by omega) (by omega)]
      have hs : 0 ≤ x1 * 131 + x2 * 1117 + p * 29 + q * 53 ∧ x1 * 131 + x2 * 1117 + p * 29 + q * 53 ≤ 9223372036854775807 := by omega
      generalize x1 * 131 + x2 * 1117 + p * 29 + q * 53 = s at *
      have hq : 0 ≤ Int.tdiv s 64 ∧ Int.tdiv s 64 ≤ s := by
        rw [Int.tdiv_eq_ediv_of_nonneg hs.1]
        omega
      rw [wrap_small (x := Int.tdiv s 64) (by omega) (by omega)]
      have ht := tmod_range (xor_nonneg hs.1 hs.2 hq.1 (by omega)) hn
      exact ⟨_, rfl, ht.1, ht.2⟩

/-- The reader at block g reads the bytes b, p of which are read: at the world W, the bytes lie in the elder world w0. -/
abbrev RD (w0 W : World) (g : Nat) (b : List Int) (p : Int) : Prop := IsS80 w0 W g b p
theorem pick_calls (g : Nat) (b : List Int) (p n : Int) (w0 w : World) (hI : RD w0 w g b p) (hB : Below w0.heap.size w0 w) (hb : Bytes b) (hl : b.length ≤ 2000) (h0 : 0 ≤ p) (hp : p ≤ 1099511627776) (hn : 1 ≤ n) :
    Calls Tryd.prog 41 #[.pointer (some ⟨g, 0, none⟩), .int .i64 n] w fun e w' => ∃ r : Int, 0 ≤ r ∧ r < n ∧ e = .returned (.int .i64 r) ∧ RD w0 w' g b (p + 1) ∧ Below w0.heap.size w0 w' ∧ KeepBut w w' g none := by
  obtain ⟨r, hr, h1, h2⟩ := pick_f b hb hl p n h0 hp hn
  exact (spec_l6Rd_pick.calls 1 g b p n r (p + 1) w0 w hI hB hr).mono fun e w' ⟨he, hi, hbb, hk⟩ => ⟨r, h1, h2, he, hi, hbb, hk⟩
theorem open_calls (A : Option Addr) (c : Nat) (l : List Int) (w0 w : World) (hB : Below w0.heap.size w0 w) (hC : Kd.C (Kd.int .u8) w0 A l.length l) (hc : l.length ≤ c) :
    Calls Tryd.prog 31 #[.slice A l.length c] w fun e w' => ∃ (g : Nat) (b : List Int), e = .returned (.pointer (some ⟨g, 0, none⟩)) ∧ b.length ≤ 2000 ∧ (∀ x ∈ b, x ∈ l) ∧ RD w0 w' g b 0 ∧ Below w0.heap.size w0 w' ∧ Below w.heap.size w w' := by
  have hf : ∃ b, spec_l6Open.f l = some (b, 0) ∧ b.length ≤ 2000 ∧ ∀ x ∈ b, x ∈ l := by
    unfold spec_l6Open.f
    by_cases h : (l.length : Int) > 2000
    · rw [if_pos h, if_pos (by omega)]
      exact ⟨_, rfl, by simp; omega, fun x hx => List.mem_of_mem_take hx⟩
    · rw [if_neg h]
      exact ⟨_, rfl, by omega, fun x hx => hx⟩
  obtain ⟨b, hf, hl, hm⟩ := hf
  exact (spec_l6Open.calls A c l b 0 w0 w hB hC hc hf).mono fun e w' ⟨g, he, hi, h1, h2⟩ => ⟨g, b, he, hl, hm, hi, h1, h2⟩
theorem RD_ne {w0 W : World} {g : Nat} {b : List Int} {p : Int} (h : RD w0 W g b p) {x : Nat} {z : Int} (hc : W.cell? ⟨x, 0, none⟩ = some (.int .i64 z)) : x ≠ g := by
  rintro rfl
  obtain ⟨A0, c0, hh, _⟩ := h
  rw [blk_cell hh 0] at hc
  simp at hc
theorem kcell {W w1 : World} {g : Nat} (hK : KeepBut W w1 g none) : (∀ bl o, bl ≠ g → bl < W.heap.size → w1.cell? ⟨bl, o, none⟩ = W.cell? ⟨bl, o, none⟩) ∧ (∀ bl o, bl ≠ g → bl < W.heap.size → w1.frozen? ⟨bl, o, none⟩ = W.frozen? ⟨bl, o, none⟩) := by
  constructor
  · intro bl o h1 h2
    have h := hK.2 bl h2 h1 (by simp)
    simp [World.cell?, h]
  · intro bl o h1 h2
    have h := hK.2 bl h2 h1 (by simp)
    simp [World.frozen?, h]
theorem keep_new {w W : World} {g : Nat} (h : KeepBut w W g none) {p : Addr} (hp : w.heap.size ≤ p.block) (u : Value) : KeepBut w (W.setCell p u) g none :=
  ⟨Nat.le_trans h.1 (Nat.le_of_eq (by simp)), fun i hi hg hr => by
    rw [Below.heap_setCell W p u i (by omega)]
    exact h.2 i hi hg hr⟩
theorem pick_k (b : List Int) (hb : Bytes b) (hl : b.length ≤ 2000) (p n : Int) (h0 : 0 ≤ p) (hp : p ≤ 1099511627776) (hn : 1 ≤ n) (k : Nat) : ∃ r, spec_l6Rd_pick.f (k + 1) b p n = some (r, p + 1) ∧ 0 ≤ r ∧ r < n := by
  obtain ⟨r, hr, h1, h2⟩ := pick_f b hb hl p n h0 hp hn
  refine ⟨r, ?_, h1, h2⟩
  induction k with
  | zero => exact hr
  | succ k ih => exact spec_l6Rd_pick.mono _ _ _ _ _ ih
end Go.Proofs.YtajdjoggflagdaaDoor.T
