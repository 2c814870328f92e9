import Derived.Test.YtphnphmbfogmlaaGreatQFByq
import Derived.Test.YtphnphmbfogmlaaGreatQFRec
namespace Go.Proofs.YtphnphmbfogmlaaGreat.T
open Go.RowKit Go.PW
set_option linter.unusedSimpArgs false
set_option linter.unusedVariables false
def DX (x : Int) : Bool := !inB x 0 9
theorem Wh (n : Int) (w : World) :
 Calls Tryz.prog 112 #[.int .i64 n] w fun e w' => e = .returned (.bool (DX n)) ∧ w = w' := by
 go_enter Tryz.func112, Tryz.ntmps112
 go_wp2_with (go_at_call 37; refine (Uz _ _ _ _).mono ?_; rintro e w' ⟨rfl, rfl⟩)
 go_ret
 exact ⟨rfl, rfl⟩
def Dl (x : Int) : Bool := x != 0
theorem NM (n : Int) (w : World) :
 Calls Tryz.prog 113 #[.int .i64 n] w fun e w' => e = .returned (.bool (Dl n)) ∧ w = w' := by
 go_enter Tryz.func113, Tryz.ntmps113
 go_wp2
 go_ret
 exact ⟨rfl, rfl⟩
theorem any_take_succ (l : List Int) (p : Int → Bool) (k : Nat) (h : k < l.length) : (l.take (k + 1)).any p = ((l.take k).any p || p (rd l k)) := by
 have e : l.take (k + 1) = l.take k ++ [rd l k] := by
  rw [List.take_add_one, List.getElem?_eq_getElem h]
  simp [rd, List.getD_eq_getElem?_getD, List.getElem?_eq_getElem h]
 rw [e, List.any_append]
 simp
set_option maxRecDepth 100000 in
theorem KL (A : Option Addr) (c : Nat) (l : List Int) (w : World) (hC : CI w A l) (hc : l.length ≤ c) :
 Calls Tryz.prog 115 #[.slice A l.length c, .func (Fn.func 112) #[] #[]] w fun e w' => ∃ r : Int, e = .returned (.int .i64 r) ∧ decide (0 ≤ r) = l.any DX ∧ w = w' := by
 have hm : l.length ≤ 9223372036854775807 := hC.2.1; have HC := zz hC; clear hC
 go_enter Tryz.func115, Tryz.ntmps115
 go_wp2
 go_loop [8] (fun i => ∃ k : Nat, k ≤ l.length ∧ i = .int .i64 k ∧ Aside0 ((l.take k).any DX = false)) (fun i => l.length - (intOf i).toNat)
 case atStart => exact ⟨0, Nat.zero_le _, rfl, ⟨by simp⟩⟩
 case round =>
  obtain ⟨k, hk, rfl, hA⟩ := hrel
  by_cases hlt : k < l.length
  ·obtain ⟨ad, rfl, hcell⟩ := Kd.Jn HC.out (k : Int) (by omega) (by omega)
   have HS := zz (any_take_succ l DX k hlt); rw [Int.toNat_natCast] at hcell
   by_cases hb : DX (rd l k) = true
   ·go_wp2_with (go_at_call 112; refine (Wh _ _).mono ?_; rintro e w1 ⟨rfl, rfl⟩)
    go_ret
    refine ⟨_, rfl, ?_, rfl⟩
    have h2 : (l.take (k + 1)).any DX = true := by rw [HS.out, hb, Bool.or_true]
    have h3 : l.any DX = true := by
     rw [List.any_eq_true] at h2 ⊢; obtain ⟨x, hx, hpx⟩ := h2; exact ⟨x, List.mem_of_mem_take hx, hpx⟩
    rw [h3]
    simp
   ·have hb2 : DX (rd l k) = false := by simpa using hb
    clear hb
    go_wp2_with (go_at_call 112; refine (Wh _ _).mono ?_; rintro e w1 ⟨rfl, rfl⟩)
    go_round
    case rel => exact ⟨k + 1, by omega, by go_num, ⟨by rw [HS.out, hA.out, hb2]; rfl⟩⟩
    case measure => simp [intOf]; omega
  ·have hk2 : k = l.length := by omega
   go_wp2
   go_ret
   refine ⟨_, rfl, ?_, rfl⟩; have h3 := hA.out; rw [hk2, List.take_length] at h3; rw [h3]
   rfl
theorem SF (A : Option Addr) (c : Nat) (l : List Int) (w : World) (hC : CI w A l) (hc : l.length ≤ c) :
 Calls Tryz.prog 105 #[.slice A l.length c, .func (Fn.func 112) #[] #[]] w fun e w' => e = .returned (.bool (l.any DX)) ∧ w = w' := by
 have HC := zz hC; clear hC
 go_enter Tryz.func105, Tryz.ntmps105
 go_wp2_with (go_at_call 115; refine (KL A c l _ HC.out hc).mono ?_; rintro e w1 ⟨r, rfl, hr, rfl⟩; have HR := zz hr; clear hr)
 go_ret
 exact ⟨by rw [← HR.out]; rfl, rfl⟩
set_option maxRecDepth 100000 in
theorem Kb (A : Option Addr) (c : Nat) (l : List Int) (w : World) (hC : CI w A l) (hc : l.length ≤ c) :
 Calls Tryz.prog 115 #[.slice A l.length c, .func (Fn.func 113) #[] #[]] w fun e w' => ∃ r : Int, e = .returned (.int .i64 r) ∧ decide (0 ≤ r) = l.any Dl ∧ w = w' := by
 have hm : l.length ≤ 9223372036854775807 := hC.2.1; have HC := zz hC; clear hC
 go_enter Tryz.func115, Tryz.ntmps115
 go_wp2
 go_loop [8] (fun i => ∃ k : Nat, k ≤ l.length ∧ i = .int .i64 k ∧ Aside0 ((l.take k).any Dl = false)) (fun i => l.length - (intOf i).toNat)
 case atStart => exact ⟨0, Nat.zero_le _, rfl, ⟨by simp⟩⟩
 case round =>
  obtain ⟨k, hk, rfl, hA⟩ := hrel
  by_cases hlt : k < l.length
  ·obtain ⟨ad, rfl, hcell⟩ := Kd.Jn HC.out (k : Int) (by omega) (by omega)
   have HS := zz (any_take_succ l Dl k hlt); rw [Int.toNat_natCast] at hcell
   by_cases hb : Dl (rd l k) = true
   ·go_wp2_with (go_at_call 113; refine (NM _ _).mono ?_; rintro e w1 ⟨rfl, rfl⟩)
    go_ret
    refine ⟨_, rfl, ?_, rfl⟩
    have h2 : (l.take (k + 1)).any Dl = true := by rw [HS.out, hb, Bool.or_true]
    have h3 : l.any Dl = true := by
     rw [List.any_eq_true] at h2 ⊢; obtain ⟨x, hx, hpx⟩ := h2; exact ⟨x, List.mem_of_mem_take hx, hpx⟩
    rw [h3]
    simp
   ·have hb2 : Dl (rd l k) = false := by simpa using hb
    clear hb
    go_wp2_with (go_at_call 113; refine (NM _ _).mono ?_; rintro e w1 ⟨rfl, rfl⟩)
    go_round
    case rel => exact ⟨k + 1, by omega, by go_num, ⟨by rw [HS.out, hA.out, hb2]; rfl⟩⟩
    case measure => simp [intOf]; omega
  ·have hk2 : k = l.length := by omega
   go_wp2
   go_ret
   refine ⟨_, rfl, ?_, rfl⟩; have h3 := hA.out; rw [hk2, List.take_length] at h3; rw [h3]
   rfl
theorem NN (A : Option Addr) (c : Nat) (l : List Int) (w : World) (hC : CI w A l) (hc : l.length ≤ c) :
 Calls Tryz.prog 105 #[.slice A l.length c, .func (Fn.func 113) #[] #[]] w fun e w' => e = .returned (.bool (l.any Dl)) ∧ w = w' := by
 have HC := zz hC; clear hC
 go_enter Tryz.func105, Tryz.ntmps105
 go_wp2_with (go_at_call 115; refine (Kb A c l _ HC.out hc).mono ?_; rintro e w1 ⟨r, rfl, hr, rfl⟩; have HR := zz hr; clear hr)
 go_ret
 exact ⟨by rw [← HR.out]; rfl, rfl⟩
def Ke (l : List Int) : Bool := l.length == 3 && !l.any DX
theorem XbE (A : Option Addr) (c : Nat) (l : List Int) (w : World) (hC : CI w A l) (hc : l.length ≤ c) :
 Calls Tryz.prog 100 #[.slice A l.length c] w fun e w' => e = .returned (.bool (Ke l)) ∧ w = w' := by
 have HC := zz hC; clear hC
 by_cases h3 : l.length = 3
 ·have h3b : ((l.length : Int) == 3) = true := by simp; omega
  have H3 := zz h3; clear h3
  go_enter Tryz.func100, Tryz.ntmps100
  go_wp2_with (go_at_call 105; refine (SF A c l _ HC.out hc).mono ?_; rintro e w1 ⟨rfl, rfl⟩)
  go_ret
  exact ⟨by simp [Ke, H3.out], rfl⟩
 ·have h3b : ((l.length : Int) == 3) = false := by simp; omega
  have H3 := zz h3; clear h3
  go_enter Tryz.func100, Tryz.ntmps100
  go_wp2
  go_ret
  exact ⟨by simp [Ke, H3.out], rfl⟩
def EF (l : List Int) : Bool := !l.any Dl
theorem OA (A : Option Addr) (c : Nat) (l : List Int) (w : World) (hC : CI w A l) (hc : l.length ≤ c) :
 Calls Tryz.prog 101 #[.slice A l.length c] w fun e w' => e = .returned (.bool (EF l)) ∧ w = w' := by
 have HC := zz hC; clear hC
 go_enter Tryz.func101, Tryz.ntmps101
 go_wp2_with (go_at_call 105; refine (NN A c l _ HC.out hc).mono ?_; rintro e w1 ⟨rfl, rfl⟩)
 go_ret
 exact ⟨rfl, rfl⟩
def Zr (a b : Int) (l : List Int) : Bool := inB a 0 150 && inB b 0 3 && Ke l && (b != 0 || EF l)
set_option maxHeartbeats 1000000 in
theorem Mo (a b : Int) (A : Option Addr) (c : Nat) (l : List Int) (w : World) (hC : CI w A l) (hc : l.length ≤ c) :
 Calls Tryz.prog 79 #[.agg #[.int .i64 a, .int .i64 b, .slice A l.length c]] w fun e w' => e = .returned (.bool (Zr a b l)) ∧ Below w.heap.size w w' := by
 have HC := zz hC; clear hC
 have HC1 : ∀ o, Aside0 (CI (w.alloc o) A l) := fun o => ⟨FP HC.out (bl0 o)⟩
 go_enter Tryz.func79, Tryz.ntmps79
 go_wp2_with (first | (go_at_call 37; refine (Uz _ _ _ _).mono ?_; rintro e w' ⟨rfl, rfl⟩) | (go_at_call 100; refine (XbE A c l _ (HC1 _).out hc).mono ?_; rintro e w1 ⟨rfl, rfl⟩) | (go_at_call 101; refine (OA A c l _ (HC1 _).out hc).mono ?_; rintro e w1 ⟨rfl, rfl⟩))
 all_goals go_ret
 all_goals refine ⟨congrArg (fun b => Ending.returned (.bool b)) ?_, bl0 _⟩
 all_goals first | (simp_all [Zr]; done) | skip
end Go.Proofs.YtphnphmbfogmlaaGreat.T
namespace Go.Proofs.YtphnphmbfogmlaaGreat.T
open Go.RowKit Go.PW
set_option linter.unusedSimpArgs false
set_option linter.unusedVariables false
theorem XmX {w : World} {A : Option Addr} {l : List Int} (h : CI w A l) (o : Obj) : CI (w.alloc o) A l := FP h (bl0 o)
def Dv (b x : Int) : Bool := !inB x 0 9 || (b == 0 && x != 0)
theorem Xuz (l : List Int) (p q : Int → Bool) : l.any (fun x => p x || q x) = (l.any p || l.any q) := by
 induction l with
 | nil => rfl
 | cons x l ih => simp only [List.any_cons, ih]; cases p x <;> cases q x <;> simp
theorem VW (a b : Int) (l : List Int) : Zr a b l = (inB a 0 150 && inB b 0 3 && l.length == 3 && !l.any (Dv b)) := by
 unfold Zr Ke EF
 by_cases hb : b = 0
 ·subst hb
  have e : l.any (Dv 0) = (l.any DX || l.any Dl) := by rw [← Xuz]; rfl
  rw [e]
  cases l.any DX <;> cases l.any Dl <;> simp
 ·have e : Dv b = DX := by
   funext x
   have h2 : (b == 0) = false := by rw [beq_eq_false_iff_ne]; exact hb
   unfold Dv DX
   rw [h2, Bool.false_and, Bool.or_false]
  have h2 : (b != 0) = true := by rw [bne_iff_ne]; exact hb
  rw [e, h2, Bool.true_or, Bool.and_true, Bool.and_assoc (inB a 0 150 && inB b 0 3)]
theorem Xb3 {l : List Int} {p : Int → Bool} {k : Nat} (h : k < l.length) (hp : p (rd l k) = true) : l.any p = true := by
 rw [List.any_eq_true]; refine ⟨l[k], List.getElem_mem h, ?_⟩
 simpa [rd, List.getD_eq_getElem?_getD, List.getElem?_eq_getElem h] using hp
set_option maxHeartbeats 1000000 in
set_option maxRecDepth 100000 in
theorem KJ (a b : Int) (A : Option Addr) (c : Nat) (l : List Int) (w : World) (hC : CI w A l) (hc : l.length ≤ c) :
 Calls Tryz.prog 70 #[.agg #[.int .i64 a, .int .i64 b, .slice A l.length c]] w fun e w' => e = .returned (.bool (Zr a b l)) ∧ Below w.heap.size w w' := by
 have hm : l.length ≤ 9223372036854775807 := hC.2.1; have HC := zz hC; clear hC
 have HC1 : ∀ o, Aside0 (CI (w.alloc o) A l) := fun o => ⟨FP HC.out (bl0 o)⟩
 by_cases h : inB a 0 150 = true ∧ inB b 0 3 = true ∧ l.length = 3
 ·obtain ⟨h1, h2, h3⟩ := h
  have h3b : ((l.length : Int) != 3) = false := by simp; omega
  have H3 := zz h3; clear h3
  go_enter Tryz.func70, Tryz.ntmps70
  go_wp2_with (go_at_call 30; refine (VY _ _ _ _).mono ?_; rintro e w' ⟨rfl, rfl⟩)
  go_loop [3] (fun i => ∃ k : Nat, k ≤ l.length ∧ i = .int .i64 k ∧ Aside0 ((l.take k).any (Dv b) = false)) (fun i => l.length - (intOf i).toNat)
  case atStart => exact ⟨0, Nat.zero_le _, rfl, ⟨by simp⟩⟩
  case round =>
   obtain ⟨k, hk, rfl, hA⟩ := hrel
   by_cases hlt : k < l.length
   ·obtain ⟨ad, rfl, hcell⟩ := Kd.Jn (HC1 (.cells #[.int .i64 a, .int .i64 b, .slice A l.length c] 56)).out (k : Int) (by omega) (by omega)
    have HS := zz (any_take_succ l (Dv b) k hlt); rw [Int.toNat_natCast] at hcell
    by_cases hg : inB (rd l k) 0 9 = true
    ·by_cases hb : b = 0
     ·have hbb : (b == 0) = true := by simp [hb]
      have HB := zz hb; clear hb
      by_cases hv : rd l k = 0
      ·have hvb : (rd l k != 0) = false := by simp [hv]
       have HV := zz hv; clear hv
       go_wp2_with (go_at_call 30; refine (VY _ _ _ _).mono ?_; rintro e w' ⟨rfl, rfl⟩)
       go_round
       case rel => exact ⟨k + 1, by omega, by go_num, ⟨by rw [HS.out, hA.out]; simp [Dv, HB.out, HV.out, inB]⟩⟩
       case measure => simp [intOf]; omega
      ·have hvb : (rd l k != 0) = true := by simp [hv]
       have HV := zz hv; clear hv
       go_wp2_with (go_at_call 30; refine (VY _ _ _ _).mono ?_; rintro e w' ⟨rfl, rfl⟩)
       go_ret
       exact ⟨by rw [VW, Xb3 hlt (by simp [Dv, HB.out, HV.out])]; simp, bl0 _⟩
     ·have hbb : (b == 0) = false := by simp [hb]
      have HB := zz hb; clear hb
      go_wp2_with (go_at_call 30; refine (VY _ _ _ _).mono ?_; rintro e w' ⟨rfl, rfl⟩)
      go_round
      case rel => exact ⟨k + 1, by omega, by go_num, ⟨by rw [HS.out, hA.out]; simp [Dv, hg, HB.out]⟩⟩
      case measure => simp [intOf]; omega
    ·have hg2 : inB (rd l k) 0 9 = false := by simpa using hg
     clear hg
     go_wp2_with (go_at_call 30; refine (VY _ _ _ _).mono ?_; rintro e w' ⟨rfl, rfl⟩)
     go_ret
     exact ⟨by rw [VW, Xb3 hlt (by simp [Dv, hg2])]; simp, bl0 _⟩
   ·have HK := zz (show k = l.length by omega)
    go_wp2
    go_ret
    refine ⟨?_, bl0 _⟩; have h4 := hA.out; rw [HK.out, List.take_length] at h4; rw [VW, h4, h1, h2, H3.out]
    rfl
 ·have HN := zz (show Zr a b l = false by
   rw [VW]; simp only [Bool.and_eq_false_iff, beq_eq_false_iff_ne]
   by_cases h1 : inB a 0 150 = true
   ·by_cases h2 : inB b 0 3 = true
    ·exact .inl (.inr (fun h3 => h ⟨h1, h2, h3⟩))
    ·exact .inl (.inl (.inr (by simpa using h2)))
   ·exact .inl (.inl (.inl (by simpa using h1))))
  have hd : (inB a 0 150 = false) ∨ (inB a 0 150 = true ∧ inB b 0 3 = false) ∨ (inB a 0 150 = true ∧ inB b 0 3 = true ∧ ((l.length : Int) != 3) = true) := by
   by_cases h1 : inB a 0 150 = true
   ·by_cases h2 : inB b 0 3 = true
    ·exact .inr (.inr ⟨h1, h2, by simp; intro h3; exact h ⟨h1, h2, by omega⟩⟩)
    ·exact .inr (.inl ⟨h1, by simpa using h2⟩)
   ·exact .inl (by simpa using h1)
  clear h
  rcases hd with h1 | ⟨h1, h2⟩ | ⟨h1, h2, h3⟩
  all_goals
   go_enter Tryz.func70, Tryz.ntmps70
   go_wp2_with (go_at_call 30; refine (VY _ _ _ _).mono ?_; rintro e w' ⟨rfl, rfl⟩)
   go_ret
   exact ⟨zb80, bl0 _⟩
end Go.Proofs.YtphnphmbfogmlaaGreat.T
