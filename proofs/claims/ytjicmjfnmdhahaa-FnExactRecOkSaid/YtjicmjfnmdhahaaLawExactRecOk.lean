/- The walk of the law FnExactRecOk: for every record the program's RecOk and the reference's answer the same. No conditions. -/
import Derived.Test.YtjicmjfnmdhahaaRec
import Derived.Test.YtjicmjfnmdhahaaOpen
namespace Go.Proofs.Ytjicmjfnmdhahaa.T
open Go.RowKit Go.Proofs.YtjicmjfnmdhahaaW.PrintWords
set_option linter.unusedVariables false
set_option maxRecDepth 100000 in
theorem FnExactRecOk_walk (k tx p s o n pv nx : Int) (_g : I64 k ∧ I64 tx ∧ I64 p ∧ I64 s ∧ I64 o ∧ I64 n ∧ I64 pv ∧ I64 nx) (w : World) :
    Calls Try.prog 3 #[.agg #[.int .i64 k, .int .i64 tx, .int .i64 p, .int .i64 s, .int .i64 o, .int .i64 n, .int .i64 pv, .int .i64 nx]] w fun e w' => e = .returned (.bool true) ∧ Below w.heap.size w w' := by
  go_enter Try.func3, Try.ntmps3
  go_wp2_with fail
  refine (toRec_calls _ _ _ _ _ _ _ _ _).mono ?_
  rintro e w1 ⟨rfl, hb1⟩
  obtain ⟨hc1, hf1⟩ := bcell hb1
  have hz1 : w.heap.size < w1.heap.size := by have := hb1.size; simp at this; omega
  have HB1 := Aside0.mk hb1
  clear hb1
  go_wp2_with fail
  refine (specRecOk_calls _ _ _ _ _ _ _ _ _).mono ?_
  rintro e w2 ⟨rfl, hb2⟩
  obtain ⟨hc2, hf2⟩ := bcell hb2
  have hz2 : w.heap.size < w2.heap.size := by have := hb2.size; omega
  have HB2 := Aside0.mk hb2
  clear hb2
  go_wp2_with fail
  refine (toRec_calls _ _ _ _ _ _ _ _ _).mono ?_
  rintro e w3 ⟨rfl, hb3⟩
  have HB3 := Aside0.mk hb3
  clear hb3
  go_wp2_with fail
  refine (implRecOk_calls _ _ _ _ _ _ _ _ _).mono ?_
  rintro e w4 ⟨rfl, hb4⟩
  have HB4 := Aside0.mk hb4
  clear hb4
  go_wp2_with fail
  go_ret
  exact ⟨rfl, below_then (below_then (below_then (below_then (bl0 _) (by simp) HB1.out) (by have := HB1.out.size; simp at this; omega) HB2.out) (by have := HB1.out.size; have := HB2.out.size; simp at *; omega) HB3.out) (by have := HB1.out.size; have := HB2.out.size; have := HB3.out.size; simp at *; omega) HB4.out⟩
end Go.Proofs.Ytjicmjfnmdhahaa.T
