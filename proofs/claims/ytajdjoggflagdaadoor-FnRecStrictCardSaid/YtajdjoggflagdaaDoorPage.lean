/- Contracts of the functions that look at one page. -/
import Derived.Test.YtajdjoggflagdaaDoorRec
namespace Go.Proofs.YtajdjoggflagdaaDoor.T
open Go.RowKit Go.Proofs.YtajdjoggflagdaaDoorW.PrintWords
set_option linter.unusedSimpArgs false
set_option linter.unusedVariables false

def badVal (x : Int) : Bool := !inB x 0 9
theorem valsOk1_calls (n : Int) (w : World) :
    Calls Tryd.prog 69 #[.int .i64 n] w fun e w' => e = .returned (.bool (badVal n)) ∧ w = w' := by
  go_enter Tryd.func69, Tryd.ntmps69
  go_wp2_with (go_at_call 51; refine (in_calls _ _ _ _).mono ?_; rintro e w' ⟨rfl, rfl⟩)
  go_ret
  exact ⟨rfl, rfl⟩
def badZero (x : Int) : Bool := x != 0
theorem allZero1_calls (n : Int) (w : World) :
    Calls Tryd.prog 70 #[.int .i64 n] w fun e w' => e = .returned (.bool (badZero n)) ∧ w = w' := by
  go_enter Tryd.func70, Tryd.ntmps70
  go_wp2
  go_ret
  exact ⟨rfl, rfl⟩
theorem any_take_succ (l : List Int) (p : Int → Bool) (k : Nat) (h : k < l.length) : (l.take (k + 1)).any p = ((l.take k).any p || p (rd l k)) := by
  have e : l.take (k + 1) = l.take k ++ [rd l k] := by
    rw [List.take_add_one, List.getElem?_eq_getElem h]
    simp [rd, List.getD_eq_getElem?_getD, List.getElem?_eq_getElem h]
  rw [e, List.any_append]
  simp
set_option maxRecDepth 100000 in
theorem IndexFunc_badVal (A : Option Addr) (c : Nat) (l : List Int) (w : World) (hC : CI w A l) (hc : l.length ≤ c) :
    Calls Tryd.prog 82 #[.slice A l.length c, .func (Fn.func 69) #[] #[]] w fun e w' => ∃ r : Int, e = .returned (.int .i64 r) ∧ decide (0 ≤ r) = l.any badVal ∧ w = w' := by
  have hm : l.length ≤ 9223372036854775807 := hC.2.1
  have HC := Aside0.mk hC
  clear hC
  go_enter Tryd.func82, Tryd.ntmps82
  go_wp2
  go_loop [8] (fun i => ∃ k : Nat, k ≤ l.length ∧ i = .int .i64 k ∧ Aside0 ((l.take k).any badVal = false)) (fun i => l.length - (intOf i).toNat)
  case atStart => exact ⟨0, Nat.zero_le _, rfl, ⟨by simp⟩⟩
  case round =>
    obtain ⟨k, hk, rfl, hA⟩ := hrel
    by_cases hlt : k < l.length
    · obtain ⟨ad, rfl, hcell⟩ := Kd.at_int HC.out (k : Int) (by omega) (by omega)
      have HS := Aside0.mk (any_take_succ l badVal k hlt)
      rw [Int.toNat_natCast] at hcell
      by_cases hb : badVal (rd l k) = true
      · go_wp2_with (go_at_call 69; refine (valsOk1_calls _ _).mono ?_; rintro e w1 ⟨rfl, rfl⟩)
        go_ret
        refine ⟨_, rfl, ?_, rfl⟩
        have h2 : (l.take (k + 1)).any badVal = true := by rw [HS.out, hb, Bool.or_true]
        have h3 : l.any badVal = true := by
          rw [List.any_eq_true] at h2 ⊢
          obtain ⟨x, hx, hpx⟩ := h2
          exact ⟨x, List.mem_of_mem_take hx, hpx⟩
        rw [h3]
        simp
      · have hb2 : badVal (rd l k) = false := by simpa using hb
        clear hb
        go_wp2_with (go_at_call 69; refine (valsOk1_calls _ _).mono ?_; rintro e w1 ⟨rfl, rfl⟩)
        go_round
        case rel => exact ⟨k + 1, by omega, by go_num, ⟨by rw [HS.out, hA.out, hb2]; rfl⟩⟩
        case measure => simp [intOf]; omega
    · have hk2 : k = l.length := by omega
      go_wp2
      go_ret
      refine ⟨_, rfl, ?_, rfl⟩
      have h3 := hA.out
      rw [hk2, List.take_length] at h3
      rw [h3]
      rfl
theorem ContainsFunc_badVal (A : Option Addr) (c : Nat) (l : List Int) (w : World) (hC : CI w A l) (hc : l.length ≤ c) :
    Calls Tryd.prog 68 #[.slice A l.length c, .func (Fn.func 69) #[] #[]] w fun e w' => e = .returned (.bool (l.any badVal)) ∧ w = w' := by
  have HC := Aside0.mk hC
  clear hC
  go_enter Tryd.func68, Tryd.ntmps68
  go_wp2_with (go_at_call 82; refine (IndexFunc_badVal A c l _ HC.out hc).mono ?_; rintro e w1 ⟨r, rfl, hr, rfl⟩; have HR := Aside0.mk hr; clear hr)
  go_ret
  exact ⟨by rw [← HR.out]; rfl, rfl⟩
set_option maxRecDepth 100000 in
theorem IndexFunc_badZero (A : Option Addr) (c : Nat) (l : List Int) (w : World) (hC : CI w A l) (hc : l.length ≤ c) :
    Calls Tryd.prog 82 #[.slice A l.length c, .func (Fn.func 70) #[] #[]] w fun e w' => ∃ r : Int, e = .returned (.int .i64 r) ∧ decide (0 ≤ r) = l.any badZero ∧ w = w' := by
  have hm : l.length ≤ 9223372036854775807 := hC.2.1
  have HC := Aside0.mk hC
  clear hC
  go_enter Tryd.func82, Tryd.ntmps82
  go_wp2
  go_loop [8] (fun i => ∃ k : Nat, k ≤ l.length ∧ i = .int .i64 k ∧ Aside0 ((l.take k).any badZero = false)) (fun i => l.length - (intOf i).toNat)
  case atStart => exact ⟨0, Nat.zero_le _, rfl, ⟨by simp⟩⟩
  case round =>
    obtain ⟨k, hk, rfl, hA⟩ := hrel
    by_cases hlt : k < l.length
    · obtain ⟨ad, rfl, hcell⟩ := Kd.at_int HC.out (k : Int) (by omega) (by omega)
      have HS := Aside0.mk (any_take_succ l badZero k hlt)
      rw [Int.toNat_natCast] at hcell
      by_cases hb : badZero (rd l k) = true
      · go_wp2_with (go_at_call 70; refine (allZero1_calls _ _).mono ?_; rintro e w1 ⟨rfl, rfl⟩)
        go_ret
        refine ⟨_, rfl, ?_, rfl⟩
        have h2 : (l.take (k + 1)).any badZero = true := by rw [HS.out, hb, Bool.or_true]
        have h3 : l.any badZero = true := by
          rw [List.any_eq_true] at h2 ⊢
          obtain ⟨x, hx, hpx⟩ := h2
          exact ⟨x, List.mem_of_mem_take hx, hpx⟩
        rw [h3]
        simp
      · have hb2 : badZero (rd l k) = false := by simpa using hb
        clear hb
        go_wp2_with (go_at_call 70; refine (allZero1_calls _ _).mono ?_; rintro e w1 ⟨rfl, rfl⟩)
        go_round
        case rel => exact ⟨k + 1, by omega, by go_num, ⟨by rw [HS.out, hA.out, hb2]; rfl⟩⟩
        case measure => simp [intOf]; omega
    · have hk2 : k = l.length := by omega
      go_wp2
      go_ret
      refine ⟨_, rfl, ?_, rfl⟩
      have h3 := hA.out
      rw [hk2, List.take_length] at h3
      rw [h3]
      rfl
theorem ContainsFunc_badZero (A : Option Addr) (c : Nat) (l : List Int) (w : World) (hC : CI w A l) (hc : l.length ≤ c) :
    Calls Tryd.prog 68 #[.slice A l.length c, .func (Fn.func 70) #[] #[]] w fun e w' => e = .returned (.bool (l.any badZero)) ∧ w = w' := by
  have HC := Aside0.mk hC
  clear hC
  go_enter Tryd.func68, Tryd.ntmps68
  go_wp2_with (go_at_call 82; refine (IndexFunc_badZero A c l _ HC.out hc).mono ?_; rintro e w1 ⟨r, rfl, hr, rfl⟩; have HR := Aside0.mk hr; clear hr)
  go_ret
  exact ⟨by rw [← HR.out]; rfl, rfl⟩

def valsOkB (l : List Int) : Bool := l.length == 3 && !l.any badVal
theorem valsOk_calls (A : Option Addr) (c : Nat) (l : List Int) (w : World) (hC : CI w A l) (hc : l.length ≤ c) :
    Calls Tryd.prog 58 #[.slice A l.length c] w fun e w' => e = .returned (.bool (valsOkB l)) ∧ w = w' := by
  have HC := Aside0.mk hC
  clear hC
  by_cases h3 : l.length = 3
  · have h3b : ((l.length : Int) == 3) = true := by simp; omega
    have H3 := Aside0.mk h3
    clear h3
    go_enter Tryd.func58, Tryd.ntmps58
    go_wp2_with (go_at_call 68; refine (ContainsFunc_badVal A c l _ HC.out hc).mono ?_; rintro e w1 ⟨rfl, rfl⟩)
    go_ret
    exact ⟨by simp [valsOkB, H3.out], rfl⟩
  · have h3b : ((l.length : Int) == 3) = false := by simp; omega
    have H3 := Aside0.mk h3
    clear h3
    go_enter Tryd.func58, Tryd.ntmps58
    go_wp2
    go_ret
    exact ⟨by simp [valsOkB, H3.out], rfl⟩
def allZeroB (l : List Int) : Bool := !l.any badZero
theorem allZero_calls (A : Option Addr) (c : Nat) (l : List Int) (w : World) (hC : CI w A l) (hc : l.length ≤ c) :
    Calls Tryd.prog 59 #[.slice A l.length c] w fun e w' => e = .returned (.bool (allZeroB l)) ∧ w = w' := by
  have HC := Aside0.mk hC
  clear hC
  go_enter Tryd.func59, Tryd.ntmps59
  go_wp2_with (go_at_call 68; refine (ContainsFunc_badZero A c l _ HC.out hc).mono ?_; rintro e w1 ⟨rfl, rfl⟩)
  go_ret
  exact ⟨rfl, rfl⟩

/-- Is a page valid? -/
def pageOkB (a b : Int) (l : List Int) : Bool := inB a 0 150 && inB b 0 3 && valsOkB l && (b != 0 || allZeroB l)
def pageEmptyB (a b : Int) (l : List Int) : Bool := pageOkB a b l && allZeroB l
set_option maxHeartbeats 1000000 in
theorem implPageOk_calls (a b : Int) (A : Option Addr) (c : Nat) (l : List Int) (w : World) (hC : CI w A l) (hc : l.length ≤ c) :
    Calls Tryd.prog 32 #[.agg #[.int .i64 a, .int .i64 b, .slice A l.length c]] w fun e w' => e = .returned (.bool (pageOkB a b l)) ∧ Below w.heap.size w w' := by
  have HC := Aside0.mk hC
  clear hC
  have HC1 : ∀ o, Aside0 (CI (w.alloc o) A l) := fun o => ⟨CI_below HC.out (bl0 o)⟩
  go_enter Tryd.func32, Tryd.ntmps32
  go_wp2_with (first | (go_at_call 51; refine (in_calls _ _ _ _).mono ?_; rintro e w' ⟨rfl, rfl⟩) | (go_at_call 58; refine (valsOk_calls A c l _ (HC1 _).out hc).mono ?_; rintro e w1 ⟨rfl, rfl⟩) | (go_at_call 59; refine (allZero_calls A c l _ (HC1 _).out hc).mono ?_; rintro e w1 ⟨rfl, rfl⟩))
  all_goals go_ret
  all_goals refine ⟨congrArg (fun b => Ending.returned (.bool b)) ?_, bl0 _⟩
  all_goals first | (simp_all [pageOkB]; done) | skip
end Go.Proofs.YtajdjoggflagdaaDoor.T
