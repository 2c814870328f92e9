import Derived.Test.YtphnphmbfogmlaaGreatProg
import Derived.Below
import Derived.Deep.Draws
import Derived.OwnWalk
import Derived.Laws.MakeOwn
import Derived.Laws.OwnMore
import Derived.Deep.OwnRows
import Derived.Tactics
import Derived.Laws.Slices
import Derived.WalkKit
import Derived.KernelRfl
import Derived.RowKit3
import Derived.Deep.LoopGhost
import Derived.Deep.QuietTactic
import Derived.BigQuiet
import Derived.Laws.Rows
import Derived.Outline
import Derived.Lib.Hide
import Derived.Lib.SliceRun
import Derived.Test.YtphnphmbfogmlaaGreatQFByq
import Derived.Test.YtphnphmbfogmlaaGreatQFWMore
import Derived.Test.YtphnphmbfogmlaaGreatQFPrInts
import Derived.Test.YtphnphmbfogmlaaGreatQFPrM
namespace Go.Proofs.YtphnphmbfogmlaaGreat.T
open Go.RowKit Go.PW Go.PM
def inB (n lo hi : Int) : Bool := decide (lo ≤ n ∧ n ≤ hi)
theorem Db {n lo hi : Int} : inB n lo hi = true ↔ lo ≤ n ∧ n ≤ hi := by simp [inB]
theorem DU {W w1 : World} (hb : Below W.heap.size W w1) : (∀ b o, b < W.heap.size → w1.cell? ⟨b, o, none⟩ = W.cell? ⟨b, o, none⟩) ∧ (∀ b o, b < W.heap.size → w1.frozen? ⟨b, o, none⟩ = W.frozen? ⟨b, o, none⟩) :=
 ⟨fun b o h => hb.cell (p := ⟨b, o, none⟩) h, fun b o h => hb.frozen (p := ⟨b, o, none⟩) h⟩
end Go.Proofs.YtphnphmbfogmlaaGreat.T
namespace Go.Proofs.YtphnphmbfogmlaaGreat.T
open Go.RowKit Go.PW Go.Proofs.YtphnphmbfogmlaaGreat.Pr
set_option linter.unusedSimpArgs false
set_option linter.unusedVariables false
abbrev CI (w : World) (A : Option Addr) (l : List Int) : Prop := Kd.C (Kd.int .i64) w A l.length l
theorem FP {w w1 : World} {A : Option Addr} {l : List Int} (h : CI w A l) (hb : Below w.heap.size w w1) : CI w1 A l := Kd.Xg h hb
theorem bl0 {w : World} (o : Obj) : Below w.heap.size w (w.alloc o) := Xj (Below.refl _ _) o
theorem bl1 {w : World} (o : Obj) (n : Nat) : Below w.heap.size w ((w.alloc o).drewN n) := XN (Xj (Below.refl _ _) o) n
theorem bl3 {w : World} (o o1 o2 : Obj) : Below w.heap.size w (((w.alloc o).alloc o1).alloc o2) := Xj (Xj (Xj (Below.refl _ _) o) o1) o2
theorem wrap_small {x : Int} (h0 : -9223372036854775808 ≤ x) (h1 : x ≤ 9223372036854775807) : wrap64 x = x := by unfold wrap64; omega
theorem XkL (l : List Int) (hl : l.length ≤ 35184372088832) : ∀ (d k i : Nat), l.length - i = d → i ≤ l.length → d < k →
 Yk.l0 k l (l.take i ++ List.replicate (l.length - i) 0) i = some l := by
 intro d
 induction d with
 | zero =>
  intro k i hd hi hk
  obtain ⟨k, rfl⟩ : ∃ m, k = m + 1 := ⟨k - 1, by omega⟩
  have e : i = l.length := by omega
  subst e; simp only [Yk.l0]; rw [if_neg (by omega)]
  simp
 | succ d ih =>
  intro k i hd hi hk
  obtain ⟨k, rfl⟩ : ∃ m, k = m + 1 := ⟨k - 1, by omega⟩
  have hlt : i < l.length := by omega
  simp only [Yk.l0]; rw [if_pos (by omega), if_pos (by omega), if_pos zb99, wrap_small (by omega) (by omega)]
  have e : (l.take i ++ List.replicate (l.length - i) 0).set ((i : Int)).toNat (rd l i) = l.take (i + 1) ++ List.replicate (l.length - (i + 1)) 0 := by
   rw [Int.toNat_natCast, List.set_append_right _ _ zb99, List.length_take, Nat.min_eq_left (by omega), Nat.sub_self]
   obtain ⟨m, hm⟩ : ∃ m, l.length - i = m + 1 := ⟨l.length - i - 1, by omega⟩
   have e1 : rd l i = l[i] := by simp [rd, List.getD_eq_getElem?_getD, List.getElem?_eq_getElem hlt]
   rw [hm, List.replicate_succ, List.set_cons_zero, List.take_succ_eq_append_getElem hlt, show l.length - (i + 1) = m by omega, e1, List.append_assoc, List.singleton_append]
  rw [e]; have h := ih k (i + 1) (by omega) (by omega) (by omega); rw [show ((i : Int) + 1) = ((i + 1 : Nat) : Int) by omega]; exact h
theorem XmD (l : List Int) (hl : l.length ≤ 35184372088832) : Yk.f (l.length + 1) l = some l := by
 unfold Yk.f
 rw [if_pos (by omega), if_pos (by omega)]; have h := XkL l hl l.length (l.length + 1) 0 (by omega) (by omega) (by omega)
 simpa using h
def NewI (w : World) (base : Nat) (v : Value) (l : List Int) : Prop := Kd.R (Kd.int .i64) 3 w base (fun _ => True) v l
theorem U0 {w : World} {base : Nat} {v : Value} {l : List Int} (h : NewI w base v l) : ∃ A c, v = .slice A l.length c ∧ l.length ≤ c ∧ CI w A l := Kd.RO h
theorem XkM (a b : List Int) (hl : a.length = b.length) (hm : a.length ≤ 9223372036854775807) : ∀ (d k i : Nat), a.length - i = d → i ≤ a.length → d < k →
 XK.l0 k a b i = some (decide (a.drop i = b.drop i)) := by
 intro d
 induction d with
 | zero =>
  intro k i hd hi hk
  obtain ⟨k, rfl⟩ : ∃ m, k = m + 1 := ⟨k - 1, by omega⟩
  simp only [XK.l0]; rw [if_neg (by omega), List.drop_of_length_le (by omega), List.drop_of_length_le (by omega)]
  simp
 | succ d ih =>
  intro k i hd hi hk
  obtain ⟨k, rfl⟩ : ∃ m, k = m + 1 := ⟨k - 1, by omega⟩
  have h1 : i < a.length := by omega
  have h2 : i < b.length := by omega
  simp only [XK.l0]; rw [if_pos (by omega), if_pos (by omega), if_pos (by omega)]
  have e1 : rd a i = a[i] := by simp [rd, List.getD_eq_getElem?_getD, List.getElem?_eq_getElem h1]
  have e2 : rd b i = b[i] := by simp [rd, List.getD_eq_getElem?_getD, List.getElem?_eq_getElem h2]
  rw [e1, e2, List.drop_eq_getElem_cons h1, List.drop_eq_getElem_cons h2]
  by_cases h : a[i] = b[i]
  ·rw [if_pos h, wrap_small (by omega) (by omega), show ((i : Int) + 1) = ((i + 1 : Nat) : Int) by omega, ih k (i + 1) (by omega) (by omega) (by omega), h]
   simp only [List.cons.injEq, true_and]
  ·rw [if_neg h]
   simp only [List.cons.injEq, h, false_and, decide_false]
theorem Xc1 (a b : List Int) (hm : a.length ≤ 9223372036854775807) : XK.f (a.length + 1) a b = some (decide (a = b)) := by
 unfold XK.f
 by_cases h : a.length = b.length
 ·rw [if_pos (by omega)]
  have h2 := XkM a b h hm a.length (a.length + 1) 0 (by omega) (by omega) (by omega)
  simpa using h2
 ·rw [if_neg (by omega)]
  have : a ≠ b := fun e => h (by rw [e])
  simp [this]
def szB (n left : Int) : Int := if left - n < 0 then -1 else left - n
theorem XmG (l : List Int) (a : Int) (h0 : -1 ≤ a) (h1 : a ≤ 9223372036854775807) (hm : l.length ≤ 9223372036854775807) : Vs.f l a = some (szB l.length a) := by
 unfold Vs.f szB
 rw [wrap_small (by omega) (by omega)]
 split <;> rfl
end Go.Proofs.YtphnphmbfogmlaaGreat.T
namespace Go.Proofs.YtphnphmbfogmlaaGreat.Pr
open Go.RowKit Go.PW Go.PL Go.PM Go.Proofs.YtphnphmbfogmlaaGreat.T
set_option linter.unusedSimpArgs false
set_option linter.unusedVariables false
theorem Xre {l r : List Int} (h : Zq.f l = some r) : r = l ∧ l.length < 17592186044416 := by
 unfold Zq.f at h
 simp at h
 exact ⟨h.2.symm, h.1⟩
theorem Xfh {n : Nat} {l : List Int} {w : World} (h : Kd.C (Kd.int .i64) w none n l) : n = 0 := by
 rcases Nat.eq_zero_or_pos n with h0 | h0
 ·exact h0
 ·obtain ⟨ad, e, _⟩ := h.2.2 h0
  cases e
set_option maxHeartbeats 8000000 in
set_option maxRecDepth 100000 in
theorem Zq.calls (A0 : Option Addr) (c0 : Nat) (l0 : List Int) (r : List Int) (w : World) (hr0 : Kd.C (Kd.int .i64) w A0 l0.length l0) (hc0 : l0.length ≤ c0) (h : Zq.f l0 = some r) :
 Calls Tryz.prog 111 #[.slice A0 l0.length c0] w fun e w' => ∃ v0_ : Value, e = .returned (v0_) ∧ Kd.R (Kd.int .i64) 3 w' w.heap.size (fun _ => True) v0_ r ∧ Below w.heap.size w w' := by
 obtain ⟨rfl, hlen⟩ := Xre h; clear h
 have q22 : ∀ (w : World) (a : Option Addr) (n c n' c' : Nat), (binOp .eql 37 (.slice a n c) (.slice none n' c')).run Tryz.prog w = .ok (.bool a.isNone) w := fun w a n c n' c' => Lib.run_eql_slice_nil w _ _ a n c n' c' Tryz.underlying37
 cases A0 with
 | none =>
  have hn := Xfh hr0; have hl : r = [] := List.eq_nil_of_length_eq_zero hn; subst hl
  go_enter Tryz.func111, Tryz.ntmps111
  go_wp2
  go_ret
  exact ⟨_, rfl, Kd.PG _ _ _ _ _, Below.refl _ _⟩
 | some ad =>
  have HR0 := zz hr0; have HC0 := zz hc0; have HL := zz hlen; clear hr0 hc0 hlen; have HB := zz (Below.refl w.heap.size w); have hnil : ([] : List Int) = [] := rfl
  go_enter Tryz.func111, Tryz.ntmps111
  go_wp2_with (first | ((with_reducible refine Xp (N := 5) rfl ?_); refine Kd.Xco (Kd.int .i64) _ 3 ?hg (N := 5) ?hd (xs := ([] : List Int)) (inner := []) (ok := fun _ => True) (okp := fun _ => True) ?hr ?hp (fun _ hk => hk) trivial (Below.refl _ _) (Nat.le_refl _) (by simp) ?_; (case hd => rfl); (case hg => rfl); (case hr => exact zb7); (case hp => exact (Zt.none _ _)); intro v488 w3 ho4 hb hg_ hnew_; clear hg_ hnew_; have n0_ := zz (Kd.YY ho4 (XA zb26)); have n1_ := zz (Xc zb26 hb); clear HB; have XrU := n0_; have HB := n1_; clear n0_ n1_; clear hb ho4) | ((with_reducible refine Z0 (b := .append) (xs := #[.tmp 5, .tmp 6]) rfl ?_); at_builtin; refine Kd.SN (Kd.int .i64) (w0 := w) w.heap.size rfl (.tmp 5) (.tmp 6) 37 3 (.int .i64 0) 8 rfl Tryz.underlying37 info3 rfl (by decide) (by omega) v488 ([] : List Int) r _ _ _ (fun _ => True) (fun _ => False) rfl rfl ?aO ?aR (fun _ _ h => h) (fun _ h => h.elim) ?aF ?aB ?aS ?aL ?_; (case aR => exact zb15); (case aB => exact zb26); (case aF => exact zb89); (case aO => exact (by (with_reducible repeat (first | apply Kd.Yp | apply Kd.Y0 | apply Kd.YC)); exact XrU.out)); (case aS => exact (XA zb26)); (case aL => have := HL.out; simp; omega); intro v491 w5 ho hb hg hat; rw [List.nil_append] at ho; have n0_ := zz (hb); have n1_ := zz (ho); clear HB; clear XrU; have HB := n0_; have Xvb := n1_; clear n0_ n1_; clear ho hb hg hat))
  go_ret
  exact ⟨_, zb4, by (with_reducible repeat (first | apply Kd.Yp | apply Kd.Y0 | apply Kd.YC)); exact Xvb.out, zb26⟩
end Go.Proofs.YtphnphmbfogmlaaGreat.Pr
namespace Go.Proofs.YtphnphmbfogmlaaGreat.T
open Go.RowKit Go.PW
set_option linter.unusedSimpArgs false
set_option linter.unusedVariables false
def V6 (k tx p s o n pv nx : Int) : Bool :=
 (if k = 1 then inB p 0 4 && inB s 0 2 && inB o 0 9 && inB n 0 9 && nx == 0
  else if k = 2 then inB p 0 4 && s == -1 && inB o 0 3 && inB n 0 3 && nx == 0
  else if k = 3 then inB p 0 4 && s == 0 && o == 0 && n == 0 && nx == 0
  else if k = 4 ∨ k = 5 then p == 0 && s == 0 && o == 0 && n == 0 && nx == 0
  else if k = 6 then inB p 0 4 && inB s (-1) 2 && o == 0 && inB n 0 (if s = -1 then 3 else 9) && inB nx 0 150
  else false) && inB tx 1 3 && inB pv 0 150
theorem Uz (n lo hi : Int) (w : World) :
 Calls Tryz.prog 37 #[.int .i64 n, .int .i64 lo, .int .i64 hi] w fun e w' => e = .returned (.bool (inB n lo hi)) ∧ w = w' := by
 by_cases h : lo ≤ n
 ·go_enter Tryz.func37, Tryz.ntmps37
  go_wp2
  go_ret
  exact ⟨by simp [inB, h], rfl⟩
 ·have h' : n < lo := by omega
  go_enter Tryz.func37, Tryz.ntmps37
  go_wp2
  go_ret
  exact ⟨by simp [inB]; omega, rfl⟩
theorem VY (n lo hi : Int) (w : World) :
 Calls Tryz.prog 30 #[.int .i64 n, .int .i64 lo, .int .i64 hi] w fun e w' => e = .returned (.bool (inB n lo hi)) ∧ w = w' := by
 by_cases h : lo ≤ n
 ·go_enter Tryz.func30, Tryz.ntmps30
  go_wp2
  go_ret
  exact ⟨by simp [inB, h], rfl⟩
 ·have h' : n < lo := by omega
  go_enter Tryz.func30, Tryz.ntmps30
  go_wp2
  go_ret
  exact ⟨by simp [inB]; omega, rfl⟩
theorem XbG (n : Int) (w : World) :
 Calls Tryz.prog 34 #[.int .i64 n] w fun e w' => e = .returned (.bool (inB n 0 4)) ∧ w = w' := by
 go_enter Tryz.func34, Tryz.ntmps34
 go_wp2_with (go_at_call 37; refine (Uz _ _ _ _).mono ?_; rintro e w' ⟨rfl, rfl⟩)
 go_ret
 exact ⟨rfl, rfl⟩
theorem XfM (n : Int) (w : World) :
 Calls Tryz.prog 102 #[.int .i64 n] w fun e w' => e = .returned (.bool (inB n 1 3)) ∧ w = w' := by
 go_enter Tryz.func102, Tryz.ntmps102
 go_wp2_with (go_at_call 37; refine (Uz _ _ _ _).mono ?_; rintro e w' ⟨rfl, rfl⟩)
 go_ret
 exact ⟨rfl, rfl⟩
set_option maxHeartbeats 4000000 in
set_option maxRecDepth 100000 in
theorem TI (k tx p s o n pv nx : Int) (w : World) :
 Calls Tryz.prog 80 #[.agg #[.int .i64 k, .int .i64 tx, .int .i64 p, .int .i64 s, .int .i64 o, .int .i64 n, .int .i64 pv, .int .i64 nx]] w fun e w' => e = .returned (.bool (V6 k tx p s o n pv nx)) ∧ Below w.heap.size w w' := by
 go_enter Tryz.func80, Tryz.ntmps80
 go_wp2
 all_goals go_quiet ((go_at_call 37; exact Calls.quiet_of_same ((Uz _ _ _ _).mono (fun _ _ h => ⟨h.1, h.2.symm⟩))))
 all_goals go_wp2_with (first | (go_at_call 37; refine (Uz _ _ _ _).mono ?_; rintro e w' ⟨rfl, rfl⟩) | (go_at_call 34; refine (XbG _ _).mono ?_; rintro e w' ⟨rfl, rfl⟩) | (go_at_call 102; refine (XfM _ _).mono ?_; rintro e w' ⟨rfl, rfl⟩))
 all_goals go_ret
 all_goals refine ⟨congrArg (fun b => Ending.returned (.bool b)) ?_, bl1 _ _⟩
 all_goals first | (simp_all [V6]; done) | (simp_all [V6, inB]; done) | (simp_all [V6, inB]; omega)
def Tt (p s o n : Int) : Bool := inB p 0 4 && inB s (-1) 2 && inB o 0 (if s < 0 then 3 else 9) && inB n 0 (if s < 0 then 3 else 9)
set_option maxHeartbeats 1000000 in
theorem XfN (k tx p s o n pv nx : Int) (w : World) :
 Calls Tryz.prog 97 #[.agg #[.int .i64 k, .int .i64 tx, .int .i64 p, .int .i64 s, .int .i64 o, .int .i64 n, .int .i64 pv, .int .i64 nx]] w fun e w' => e = .returned (.bool (Tt p s o n)) ∧ Below w.heap.size w w' := by
 by_cases hs : s < 0
 all_goals
  go_enter Tryz.func97, Tryz.ntmps97
  go_wp2_with (go_at_call 30; refine (VY _ _ _ _).mono ?_; rintro e w' ⟨rfl, rfl⟩)
  all_goals go_ret
  all_goals refine ⟨congrArg (fun b => Ending.returned (.bool b)) ?_, bl0 _⟩
  all_goals unfold Tt
  all_goals first | rw [if_pos hs] | rw [if_neg (show ¬ s < 0 by omega)]
  all_goals first | (simp_all; done) | (simp_all [inB]; done) | (simp_all [inB]; omega)
theorem KI (k tx p s o n pv nx : Int) : V6 k tx p s o n pv nx = (inB tx 1 3 && inB pv 0 150 && inB nx 0 150 && (if k = 1 then Tt p s o n && decide (0 ≤ s) && nx == 0 else if k = 2 then Tt p s o n && decide (s < 0) && nx == 0
 else if k = 6 then Tt p s o n && o == 0 else if k = 3 then inB p 0 4 && s == 0 && o == 0 && n == 0 && nx == 0 else if k = 4 ∨ k = 5 then p == 0 && s == 0 && o == 0 && n == 0 && nx == 0 else false)) := by
 unfold V6 Tt inB
 rw [Bool.eq_iff_iff]
 by_cases h1 : k = 1
 ·subst h1
  by_cases hs : s < 0 <;> simp only [hs, if_true, if_false, Bool.and_eq_true, decide_eq_true_eq, beq_iff_eq] <;> omega
 ·by_cases h2 : k = 2
  ·subst h2
   by_cases hs : s < 0 <;> simp [hs] <;> omega
  ·by_cases h6 : k = 6
   ·subst h6
    by_cases hs : s < 0
    ·by_cases hm : s = -1
     ·subst hm
      simp <;> omega
     ·simp [hs, hm] <;> omega
    ·have hm : s ≠ -1 := by omega
     simp [hs, hm] <;> omega
   ·by_cases h3 : k = 3
    ·subst h3
     simp <;> omega
    ·by_cases h45 : k = 4 ∨ k = 5 <;> simp [h1, h2, h6, h3, h45] <;> omega
set_option maxHeartbeats 4000000 in
set_option maxRecDepth 100000 in
theorem TJ (k tx p s o n pv nx : Int) (w : World) :
 Calls Tryz.prog 71 #[.agg #[.int .i64 k, .int .i64 tx, .int .i64 p, .int .i64 s, .int .i64 o, .int .i64 n, .int .i64 pv, .int .i64 nx]] w fun e w' => e = .returned (.bool (V6 k tx p s o n pv nx)) ∧ Below w.heap.size w w' := by
 go_enter Tryz.func71, Tryz.ntmps71
 go_wp2_with (first | (go_at_call 30; refine (VY _ _ _ _).mono ?_; rintro e w' ⟨rfl, rfl⟩) | (go_at_call 97; refine (XfN _ _ _ _ _ _ _ _ _).mono ?_; rintro e w1 ⟨rfl, hb⟩; obtain ⟨hc, hf⟩ := DU hb))
 all_goals go_ret
 all_goals refine ⟨congrArg (fun b => Ending.returned (.bool b)) ?_, ?_⟩
 all_goals first | exact bl0 _ | exact (bl0 _).trans (Below.mono (by assumption) (by simp)) | skip
 all_goals rw [KI]
 all_goals first | (simp_all; done) | (simp_all [inB]; done) | (simp_all [inB]; omega)
end Go.Proofs.YtphnphmbfogmlaaGreat.T
