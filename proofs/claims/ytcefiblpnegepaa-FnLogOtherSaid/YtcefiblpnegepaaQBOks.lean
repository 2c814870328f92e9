import Derived.Test.YtcefiblpnegepaaProg
import Derived.Below
import Derived.Deep.Draws
import Derived.OwnWalk
import Derived.Laws.MakeOwn
import Derived.Laws.OwnMore
import Derived.Deep.OwnRows
import Derived.Tactics
import Derived.Laws.Slices
import Derived.WalkKit
import Derived.KernelRfl
import Derived.RowKit3
import Derived.Deep.LoopGhost
import Derived.Deep.QuietTactic
import Derived.BigQuiet
import Derived.Laws.Rows
import Derived.Outline
import Derived.Lib.Hide
import Derived.Test.YtcefiblpnegepaaQBWMore
import Derived.Test.YtcefiblpnegepaaQBSx
import Derived.Test.YtcefiblpnegepaaQBPrM
import Derived.Test.YtcefiblpnegepaaQBPrL71
namespace Go.Proofs.Ytcefiblpnegepaa.T
open Go.RowKit Go.PW Go.PM
def inB (n lo hi : Int) : Bool := decide (lo ≤ n ∧ n ≤ hi)
theorem Fg {n lo hi : Int} : inB n lo hi = true ↔ lo ≤ n ∧ n ≤ hi := by simp [inB]
theorem Ux {W w1 : World} (hb : Below W.heap.size W w1) : (∀ b o, b < W.heap.size → w1.cell? ⟨b, o, none⟩ = W.cell? ⟨b, o, none⟩) ∧ (∀ b o, b < W.heap.size → w1.frozen? ⟨b, o, none⟩ = W.frozen? ⟨b, o, none⟩) :=
  ⟨fun b o h => hb.cell (p := ⟨b, o, none⟩) h, fun b o h => hb.frozen (p := ⟨b, o, none⟩) h⟩
end Go.Proofs.Ytcefiblpnegepaa.T
namespace Go.Proofs.Ytcefiblpnegepaa.T
open Go.RowKit Go.PW Go.Proofs.Ytcefiblpnegepaa.Pr
set_option linter.unusedSimpArgs false
set_option linter.unusedVariables false
abbrev CI (w : World) (A : Option Addr) (l : List Int) : Prop := Kd.C (Kd.int .i64) w A l.length l
theorem BM {w w1 : World} {A : Option Addr} {l : List Int} (h : CI w A l) (hb : Below w.heap.size w w1) : CI w1 A l := Kd.Vp h hb
theorem bl0 {w : World} (o : Obj) : Below w.heap.size w (w.alloc o) := Xd (Below.refl _ _) o
theorem bl1 {w : World} (o : Obj) (n : Nat) : Below w.heap.size w ((w.alloc o).drewN n) := XF (Xd (Below.refl _ _) o) n
theorem bl3 {w : World} (o o1 o2 : Obj) : Below w.heap.size w (((w.alloc o).alloc o1).alloc o2) := Xd (Xd (Xd (Below.refl _ _) o) o1) o2
theorem wrap_small {x : Int} (h0 : -9223372036854775808 ≤ x) (h1 : x ≤ 9223372036854775807) : wrap64 x = x := by unfold wrap64; omega
def NewI (w : World) (base : Nat) (v : Value) (l : List Int) : Prop := Kd.R (Kd.int .i64) 3 w base (fun _ => True) v l
theorem P6 {w : World} {base : Nat} {v : Value} {l : List Int} (h : NewI w base v l) : ∃ A c, v = .slice A l.length c ∧ l.length ≤ c ∧ CI w A l := Kd.Nb h
end Go.Proofs.Ytcefiblpnegepaa.T
namespace Go.Proofs.Ytcefiblpnegepaa.T
open Go.RowKit Go.PW Go.Proofs.Ytcefiblpnegepaa.Pr
set_option linter.unusedSimpArgs false
set_option linter.unusedVariables false
theorem XaD (a b : Nat) (ha : a < 9223372036854775808) (hb : b < 9223372036854775808) : bits .xor .i64 (a : Int) (b : Int) = ((a ^^^ b : Nat) : Int) := by
  have hx : a ^^^ b < 2 ^ 63 := Nat.xor_lt_two_pow (by omega) (by omega)
  have h1 : (BitVec.ofInt 64 (a : Int)).toNat = a := by
    rw [BitVec.ofInt_natCast, BitVec.toNat_ofNat]; exact Nat.mod_eq_of_lt (by omega)
  have h2 : (BitVec.ofInt 64 (b : Int)).toNat = b := by
    rw [BitVec.ofInt_natCast, BitVec.toNat_ofNat]; exact Nat.mod_eq_of_lt (by omega)
  show IntKind.i64.wrap ((BitVec.ofInt 64 (a : Int) ^^^ BitVec.ofInt 64 (b : Int)).toNat : Int) = _
  rw [BitVec.toNat_xor, h1, h2]; simp only [IntKind.wrap, IntKind.bits, IntKind.signed]
  simp
  omega
theorem XbF {a b : Int} (ha : 0 ≤ a) (ha2 : a ≤ 9223372036854775807) (hb : 0 ≤ b) (hb2 : b ≤ 9223372036854775807) : 0 ≤ bits .xor .i64 a b := by
  obtain ⟨n, rfl⟩ := Int.eq_ofNat_of_zero_le ha; obtain ⟨m, rfl⟩ := Int.eq_ofNat_of_zero_le hb; have h := XaD n m (by omega) (by omega); rw [h]; omega
theorem Sr {a n : Int} (ha : 0 ≤ a) (hn : 1 ≤ n) : 0 ≤ Int.tmod a n ∧ Int.tmod a n < n := by
  rw [Int.tmod_eq_emod_of_nonneg ha]; exact ⟨Int.emod_nonneg _ (by omega), Int.emod_lt_of_pos _ (by omega)⟩
theorem Qy {b : List Int} (hb : ∀ x ∈ b, 0 ≤ x ∧ x ≤ 255) (i : Int) : 0 ≤ rd b i ∧ rd b i ≤ 255 := by
  unfold rd
  rw [List.getD_eq_getElem?_getD]
  cases h : b[i.toNat]? with
  | none => simp
  | some x => exact hb x (List.mem_of_getElem? h)
def Bytes (b : List Int) : Prop := ∀ x ∈ b, 0 ≤ x ∧ x ≤ 255
theorem Xpv (b : List Int) (hb : Bytes b) (hl : b.length ≤ 2000) (p n : Int) (h0 : 0 ≤ p) (hp : p ≤ 1099511627776) (hn : 1 ≤ n) : ∃ r, Xb.f 1 b p n = some (r, p + 1) ∧ 0 ≤ r ∧ r < n := by
  unfold Xb.f
  rw [if_neg (by omega), wrap_small (by omega) (by omega)]; simp only [Xb.j0]; rw [wrap_small (x := p + 1 - 1) (by omega) (by omega), show p + 1 - 1 = p by omega]
  by_cases hz : (b.length : Int) = 0
  · rw [if_pos (by simpa using hz)]
    exact ⟨0, rfl, by omega, by omega⟩
  · rw [if_neg (by simpa using hz)]
    by_cases hlt : p < (b.length : Int)
    · rw [if_pos hlt, if_pos h0, if_neg (by omega)]
      have hr := Qy hb p; rw [wrap_small (by omega) (by omega)]; have ht := Sr hr.1 hn; exact ⟨_, rfl, ht.1, ht.2⟩
    · have hpos : 1 ≤ (b.length : Int) := by omega
      have t1 := Sr h0 hpos; rw [if_neg hlt, if_neg hz, if_pos t1.1, if_pos t1.2]; rw [wrap_small (x := p * 7) (by omega) (by omega), wrap_small (x := p * 7 + 3) (by omega) (by omega)]; have t2 := Sr (a := p * 7 + 3) (by omega) hpos; rw [if_pos t2.1, if_pos t2.2, if_neg (by omega)]; generalize Int.tmod p (b.length : Int) = i1 at *; generalize Int.tmod (p * 7 + 3) (b.length : Int) = i2 at *; have r1 := Qy hb i1; have r2 := Qy hb i2; generalize rd b i1 = x1 at *; generalize rd b i2 = x2 at *
      have hd : 0 ≤ Int.tdiv p (b.length : Int) ∧ Int.tdiv p (b.length : Int) ≤ p := by
        rw [Int.tdiv_eq_ediv_of_nonneg h0]; exact ⟨Int.ediv_nonneg h0 (by omega), Int.ediv_le_self _ h0⟩
      generalize Int.tdiv p (b.length : Int) = q at *
      rw [wrap_small (x := x1) (by omega) (by omega), wrap_small (x := x1 * 131) (by omega) (by omega), wrap_small (x := x2) (by omega) (by omega), wrap_small (x := x2 * 1117) (by omega) (by omega), wrap_small (x := x1 * 131 + x2 * 1117) (by omega) (by omega),
        wrap_small (x := p * 29) (by omega) (by omega), wrap_small (x := x1 * 131 + x2 * 1117 + p * 29) (by omega) (by omega), wrap_small (x := q) (by omega) (by omega), wrap_small (x := q * 53) (by omega) (by omega), wrap_small (x := x1 * 131 + x2 * 1117 + p * 29 + q * 53) (by omega) (by omega)]
      have hs : 0 ≤ x1 * 131 + x2 * 1117 + p * 29 + q * 53 ∧ x1 * 131 + x2 * 1117 + p * 29 + q * 53 ≤ 9223372036854775807 := by omega
      generalize x1 * 131 + x2 * 1117 + p * 29 + q * 53 = s at *
      have hq : 0 ≤ Int.tdiv s 64 ∧ Int.tdiv s 64 ≤ s := by
        rw [Int.tdiv_eq_ediv_of_nonneg hs.1]; omega
      rw [wrap_small (x := Int.tdiv s 64) (by omega) (by omega)]; have ht := Sr (XbF hs.1 hs.2 hq.1 (by omega)) hn; exact ⟨_, rfl, ht.1, ht.2⟩
theorem Lv (b : List Int) (hb : Bytes b) (hl : b.length ≤ 2000) (p n : Int) (h0 : 0 ≤ p) (hp : p ≤ 1099511627776) (hn : 1 ≤ n) (k : Nat) : ∃ r, Xb.f (k + 1) b p n = some (r, p + 1) ∧ 0 ≤ r ∧ r < n := by
  obtain ⟨r, hr, h1, h2⟩ := Xpv b hb hl p n h0 hp hn; refine ⟨r, ?_, h1, h2⟩
  induction k with
  | zero => exact hr
  | succ k ih => exact Xb.mono _ _ _ _ _ ih
end Go.Proofs.Ytcefiblpnegepaa.T
namespace Go.Proofs.Ytcefiblpnegepaa.T
open Go.RowKit Go.PW Go.Proofs.Ytcefiblpnegepaa.Pr
set_option linter.unusedSimpArgs false
set_option linter.unusedVariables false
theorem Xpw (b : List Int) (hb : Bytes b) (hl : b.length ≤ 2000) (p : Int) (h0 : 0 ≤ p) (hp : p ≤ 1099511627000) (k : Nat) (a0 a1 a2 a3 a4 a5 a6 a7 : Int) :
    ∃ c0 c1 c2 c3 c4 c5 c6 c7 p', XB.j0 (k + 2) b p a0 a1 a2 a3 a4 a5 a6 a7 = some (c0, c1, c2, c3, c4, c5, c6, c7, p') ∧ p ≤ p' ∧ p' ≤ p + 2 := by
  rw [show k + 2 = (k + 1) + 1 from rfl]; simp only [XB.j0]; obtain ⟨r, hr, _⟩ := Lv b hb hl p 24 h0 (by omega) (by omega) k; obtain ⟨s6, h6, _⟩ := Lv b hb hl (p + 1) 6 (by omega) (by omega) (by omega) k; obtain ⟨s13, h13, _⟩ := Lv b hb hl (p + 1) 13 (by omega) (by omega) (by omega) k; obtain ⟨s3, h3, _⟩ := Lv b hb hl (p + 1) 3 (by omega) (by omega) (by omega) k; simp only [hr, Option.bind_some, h6, h13, h3]
  repeat' split
  all_goals exact ⟨_, _, _, _, _, _, _, _, _, rfl, by omega, by omega⟩
theorem Xtw (b : List Int) (hb : Bytes b) (hl : b.length ≤ 2000) (p : Int) (h0 : 0 ≤ p) (hp : p ≤ 1099511626000) (k : Nat) :
    ∃ c0 c1 c2 c3 c4 c5 c6 c7 p', XB.f (k + 2) b p = some (c0, c1, c2, c3, c4, c5, c6, c7, p') ∧ p ≤ p' ∧ p' ≤ p + 10 := by
  have K : ∀ q n : Int, 0 ≤ q → q ≤ 1099511627776 → 1 ≤ n → ∃ r, Xb.f (k + 2) b q n = some (r, q + 1) ∧ 0 ≤ r ∧ r < n := fun q n h1 h2 h3 => Lv b hb hl q n h1 h2 h3 (k + 1)
  have J : ∀ q a0 a1 a2 a3 a4 a5 a6 a7 : Int, p ≤ q → q ≤ p + 8 → ∃ c0 c1 c2 c3 c4 c5 c6 c7 p', XB.j0 (k + 2) b q a0 a1 a2 a3 a4 a5 a6 a7 = some (c0, c1, c2, c3, c4, c5, c6, c7, p') ∧ p ≤ p' ∧ p' ≤ p + 10 := by
    intro q a0 a1 a2 a3 a4 a5 a6 a7 h1 h2; obtain ⟨c0, c1, c2, c3, c4, c5, c6, c7, p', h, h3, h4⟩ := Xpw b hb hl q (by omega) (by omega) k a0 a1 a2 a3 a4 a5 a6 a7; exact ⟨c0, c1, c2, c3, c4, c5, c6, c7, p', h, by omega, by omega⟩
  unfold XB.f
  obtain ⟨r1, e1, _⟩ := K p 6 (by omega) (by omega) (by omega); obtain ⟨r2, e2, _⟩ := K (p + 1) 3 (by omega) (by omega) (by omega); obtain ⟨r3, e3, _⟩ := K (p + 1 + 1) 5 (by omega) (by omega) (by omega); simp only [e1, e2, e3, Option.bind_some]; obtain ⟨r4, e4, _⟩ := K (p + 1 + 1 + 1) 5 (by omega) (by omega) (by omega); simp only [e4, Option.bind_some]; obtain ⟨r5, e5, _⟩ := K (p + 1 + 1 + 1 + 1) 3 (by omega) (by omega) (by omega); obtain ⟨r6, e6, _⟩ := K (p + 1 + 1 + 1 + 1) 4 (by omega) (by omega) (by omega); obtain ⟨r7, e7, _⟩ := K (p + 1 + 1 + 1 + 1 + 1) 10 (by omega) (by omega) (by omega); obtain ⟨r8, e8, _⟩ := K (p + 1 + 1 + 1 + 1 + 1) 4 (by omega) (by omega) (by omega); obtain ⟨r9, e9, _⟩ := K (p + 1 + 1 + 1 + 1 + 1 + 1) 10 (by omega) (by omega) (by omega); obtain ⟨ra, ea, _⟩ := K (p + 1 + 1 + 1 + 1 + 1 + 1) 4 (by omega) (by omega) (by omega); simp only [e5, e6, e7, e8, e9, ea, Option.bind_some]
  split
  · exact J _ _ _ _ _ _ _ _ _ (by omega) (by omega)
  · split
    · exact J _ _ _ _ _ _ _ _ _ (by omega) (by omega)
    · split
      · exact J _ _ _ _ _ _ _ _ _ (by omega) (by omega)
      · split
        · exact J _ _ _ _ _ _ _ _ _ (by omega) (by omega)
        · exact J _ _ _ _ _ _ _ _ _ (by omega) (by omega)
end Go.Proofs.Ytcefiblpnegepaa.T
namespace Go.Proofs.Ytcefiblpnegepaa.T
open Go.RowKit Go.PW
set_option linter.unusedSimpArgs false
set_option linter.unusedVariables false
def Vl (k tx p s o n pv nx : Int) : Bool :=
  (if k = 1 then inB p 0 4 && inB s 0 2 && inB o 0 9 && inB n 0 9 && nx == 0
   else if k = 2 then inB p 0 4 && s == -1 && inB o 0 3 && inB n 0 3 && nx == 0
   else if k = 3 then inB p 0 4 && s == 0 && o == 0 && n == 0 && nx == 0
   else if k = 4 ∨ k = 5 then p == 0 && s == 0 && o == 0 && n == 0 && nx == 0
   else if k = 6 then inB p 0 4 && inB s (-1) 2 && o == 0 && inB n 0 (if s = -1 then 3 else 9) && inB nx 0 150
   else false) && inB tx 1 3 && inB pv 0 150
theorem La (n lo hi : Int) (w : World) :
    Calls Try.prog 78 #[.int .i64 n, .int .i64 lo, .int .i64 hi] w fun e w' => e = .returned (.bool (inB n lo hi)) ∧ w = w' := by
  by_cases h : lo ≤ n
  · go_enter Try.func78, Try.ntmps78
    go_wp2
    go_ret
    exact ⟨by simp [inB, h], rfl⟩
  · have h' : n < lo := by omega
    go_enter Try.func78, Try.ntmps78
    go_wp2
    go_ret
    exact ⟨by simp [inB]; omega, rfl⟩
theorem EA (n lo hi : Int) (w : World) :
    Calls Try.prog 81 #[.int .i64 n, .int .i64 lo, .int .i64 hi] w fun e w' => e = .returned (.bool (inB n lo hi)) ∧ w = w' := by
  by_cases h : lo ≤ n
  · go_enter Try.func81, Try.ntmps81
    go_wp2
    go_ret
    exact ⟨by simp [inB, h], rfl⟩
  · have h' : n < lo := by omega
    go_enter Try.func81, Try.ntmps81
    go_wp2
    go_ret
    exact ⟨by simp [inB]; omega, rfl⟩
theorem Qz (n : Int) (w : World) :
    Calls Try.prog 91 #[.int .i64 n] w fun e w' => e = .returned (.bool (inB n 0 4)) ∧ w = w' := by
  go_enter Try.func91, Try.ntmps91
  go_wp2_with (go_at_call 78; refine (La _ _ _ _).mono ?_; rintro e w' ⟨rfl, rfl⟩)
  go_ret
  exact ⟨rfl, rfl⟩
theorem XbG (n : Int) (w : World) :
    Calls Try.prog 92 #[.int .i64 n] w fun e w' => e = .returned (.bool (inB n 1 3)) ∧ w = w' := by
  go_enter Try.func92, Try.ntmps92
  go_wp2_with (go_at_call 78; refine (La _ _ _ _).mono ?_; rintro e w' ⟨rfl, rfl⟩)
  go_ret
  exact ⟨rfl, rfl⟩
set_option maxHeartbeats 4000000 in
set_option maxRecDepth 100000 in
theorem Rs (k tx p s o n pv nx : Int) (w : World) :
    Calls Try.prog 41 #[.agg #[.int .i64 k, .int .i64 tx, .int .i64 p, .int .i64 s, .int .i64 o, .int .i64 n, .int .i64 pv, .int .i64 nx]] w fun e w' => e = .returned (.bool (Vl k tx p s o n pv nx)) ∧ Below w.heap.size w w' := by
  go_enter Try.func41, Try.ntmps41
  go_wp2
  all_goals go_quiet ((go_at_call 78; exact Calls.quiet_of_same ((La _ _ _ _).mono (fun _ _ h => ⟨h.1, h.2.symm⟩))))
  all_goals go_wp2_with (first | (go_at_call 78; refine (La _ _ _ _).mono ?_; rintro e w' ⟨rfl, rfl⟩) | (go_at_call 91; refine (Qz _ _).mono ?_; rintro e w' ⟨rfl, rfl⟩) | (go_at_call 92; refine (XbG _ _).mono ?_; rintro e w' ⟨rfl, rfl⟩))
  all_goals go_ret
  all_goals refine ⟨congrArg (fun b => Ending.returned (.bool b)) ?_, bl1 _ _⟩
  all_goals first | (simp_all [Vl]; done) | (simp_all [Vl, inB]; done) | (simp_all [Vl, inB]; omega)
def TT (p s o n : Int) : Bool := inB p 0 4 && inB s (-1) 2 && inB o 0 (if s < 0 then 3 else 9) && inB n 0 (if s < 0 then 3 else 9)
set_option maxHeartbeats 1000000 in
theorem XbH (k tx p s o n pv nx : Int) (w : World) :
    Calls Try.prog 115 #[.agg #[.int .i64 k, .int .i64 tx, .int .i64 p, .int .i64 s, .int .i64 o, .int .i64 n, .int .i64 pv, .int .i64 nx]] w fun e w' => e = .returned (.bool (TT p s o n)) ∧ Below w.heap.size w w' := by
  by_cases hs : s < 0
  all_goals
    go_enter Try.func115, Try.ntmps115
    go_wp2_with (go_at_call 81; refine (EA _ _ _ _).mono ?_; rintro e w' ⟨rfl, rfl⟩)
    all_goals go_ret
    all_goals refine ⟨congrArg (fun b => Ending.returned (.bool b)) ?_, bl0 _⟩
    all_goals unfold TT
    all_goals first | rw [if_pos hs] | rw [if_neg (show ¬ s < 0 by omega)]
    all_goals first | (simp_all; done) | (simp_all [inB]; done) | (simp_all [inB]; omega)
theorem L6 (k tx p s o n pv nx : Int) : Vl k tx p s o n pv nx = (inB tx 1 3 && inB pv 0 150 && inB nx 0 150 && (if k = 1 then TT p s o n && decide (0 ≤ s) && nx == 0 else if k = 2 then TT p s o n && decide (s < 0) && nx == 0
    else if k = 6 then TT p s o n && o == 0 else if k = 3 then inB p 0 4 && s == 0 && o == 0 && n == 0 && nx == 0 else if k = 4 ∨ k = 5 then p == 0 && s == 0 && o == 0 && n == 0 && nx == 0 else false)) := by
  unfold Vl TT inB
  rw [Bool.eq_iff_iff]
  by_cases h1 : k = 1
  · subst h1
    by_cases hs : s < 0 <;> simp only [hs, if_true, if_false, Bool.and_eq_true, decide_eq_true_eq, beq_iff_eq] <;> omega
  · by_cases h2 : k = 2
    · subst h2
      by_cases hs : s < 0 <;> simp [hs] <;> omega
    · by_cases h6 : k = 6
      · subst h6
        by_cases hs : s < 0
        · by_cases hm : s = -1
          · subst hm
            simp <;> omega
          · simp [hs, hm] <;> omega
        · have hm : s ≠ -1 := by omega
          simp [hs, hm] <;> omega
      · by_cases h3 : k = 3
        · subst h3
          simp <;> omega
        · by_cases h45 : k = 4 ∨ k = 5 <;> simp [h1, h2, h6, h3, h45] <;> omega
set_option maxHeartbeats 4000000 in
set_option maxRecDepth 100000 in
theorem Ru (k tx p s o n pv nx : Int) (w : World) :
    Calls Try.prog 83 #[.agg #[.int .i64 k, .int .i64 tx, .int .i64 p, .int .i64 s, .int .i64 o, .int .i64 n, .int .i64 pv, .int .i64 nx]] w fun e w' => e = .returned (.bool (Vl k tx p s o n pv nx)) ∧ Below w.heap.size w w' := by
  go_enter Try.func83, Try.ntmps83
  go_wp2_with (first | (go_at_call 81; refine (EA _ _ _ _).mono ?_; rintro e w' ⟨rfl, rfl⟩) | (go_at_call 115; refine (XbH _ _ _ _ _ _ _ _ _).mono ?_; rintro e w1 ⟨rfl, hb⟩; obtain ⟨hc, hf⟩ := Ux hb))
  all_goals go_ret
  all_goals refine ⟨congrArg (fun b => Ending.returned (.bool b)) ?_, ?_⟩
  all_goals first | exact bl0 _ | exact (bl0 _).trans (Below.mono (by assumption) (by simp)) | skip
  all_goals rw [L6]
  all_goals first | (simp_all; done) | (simp_all [inB]; done) | (simp_all [inB]; omega)
end Go.Proofs.Ytcefiblpnegepaa.T
namespace Go.Proofs.Ytcefiblpnegepaa.Pr
open Go.RowKit Go.PW Go.Proofs.Ytcefiblpnegepaa.T
set_option linter.unusedSimpArgs false
set_option linter.unusedVariables false
theorem Xb6 {α : Type} {g : Nat → Option α} (m : ∀ k, LeO (g k) (g (k + 1))) {k : Nat} {r : α} (h : g k = some r) : ∀ d, g (k + d) = some r
  | 0 => h
  | d + 1 => m (k + d) r (Xb6 m h d)
theorem Xa0 {α : Type} {g : Nat → Option α} (m : ∀ k, LeO (g k) (g (k + 1))) {k k' : Nat} {r r' : α} (h : g k = some r) (h' : g k' = some r') : r = r' := by
  have e1 := Xb6 m h k'; have e2 := Xb6 m h' k; rw [Nat.add_comm] at e2; rw [e1] at e2; exact Option.some.inj e2
theorem XgS (n lo hi : Int) : Ya.f n lo hi = some (inB n lo hi) := by
  unfold Ya.f inB
  by_cases h : lo ≤ n
  · rw [if_pos h]
    simp [h]
  · rw [if_neg h]
    simp [h]
theorem WL {l : List Int} {i : Nat} (h : i < l.length) : l.drop i = rd l i :: l.drop (i + 1) := by
  rw [List.drop_eq_getElem_cons h]
  simp [rd, List.getD_eq_getElem?_getD, List.getElem?_eq_getElem h]
theorem Xpo (k tx p s o n pv nx : Int) (j : Nat) : Zt.f (j + 1) k tx p s o n pv nx = some (TT p s o n) := by
  unfold Zt.f TT
  simp only [XgS, Option.bind_some, Zt.j0]
  cases h1 : inB p 0 4 <;> cases h2 : inB s (-1) 2 <;> simp
  by_cases hs : s < 0
  · simp only [hs, if_true]
    cases inB o 0 3 <;> simp
  · simp only [hs, if_false]
    cases inB o 0 9 <;> simp
theorem Sl (k tx p s o n pv nx : Int) (j : Nat) : Y0.f (j + 2) k tx p s o n pv nx = some (Vl k tx p s o n pv nx) := by
  unfold Y0.f
  rw [L6]; simp only [XgS, Option.bind_some, Y0.j0, Xpo]
  cases h1 : inB tx 1 3 <;> cases h2 : inB pv 0 150 <;> cases h3 : inB nx 0 150 <;> simp
  repeat' split
  all_goals try simp_all
  all_goals (try (intros; omega))
theorem Y0.calls (k : Nat) (Jv : Int) (Jd : Int) (Gz : Int) (Yr : Int) (Y7 : Int) (NU : Int) (Mq : Int) (N7 : Int) (r : Bool) (w : World) (h : Y0.f k Jv Jd Gz Yr Y7 NU Mq N7 = some r) :
    Calls Try.prog 83 #[.agg #[.int .i64 Jv, .int .i64 Jd, .int .i64 Gz, .int .i64 Yr, .int .i64 Y7, .int .i64 NU, .int .i64 Mq, .int .i64 N7]] w fun e w' => e = .returned (.bool r) ∧ Below w.heap.size w w' := by
  obtain rfl : r = Vl Jv Jd Gz Yr Y7 NU Mq N7 := Xa0 (Y0.mono _ _ _ _ _ _ _ _) h (Sl _ _ _ _ _ _ _ _ 0); exact Ru _ _ _ _ _ _ _ _ _
end Go.Proofs.Ytcefiblpnegepaa.Pr
