/- What FnRecSame tells is true; the walk of the law. -/
import Derived.Test.YtajdjoggflagdaaDoorTxR
import Derived.Test.YtajdjoggflagdaaDoorPrLawRS
namespace Go.Proofs.YtajdjoggflagdaaDoor.T
open Go.RowKit Go.Proofs.YtajdjoggflagdaaDoorW.PrintWords Go.Proofs.YtajdjoggflagdaaDoor.Pr
set_option linter.unusedSimpArgs false
set_option linter.unusedVariables false
theorem PureFnRecSame (l l1 : List Int) (hby : Bytes l) (hby1 : Bytes l1) : laws_FnRecSame.f 9 l l1 = some true := by
  have key : ∀ x : Bool, laws_FnRecSame.j0 9 l l1 x = some true := by
    intro x
    rw [show (9 : Nat) = 8 + 1 from rfl, laws_FnRecSame.j0]
    cases x with
    | true => rfl
    | false =>
      simp only [Bool.false_eq_true, if_false]
      obtain ⟨a0, a1, a2, a3, a4, a5, a6, a7, e⟩ := DrawRecText_k l hby 6
      obtain ⟨b0, b1, b2, b3, b4, b5, b6, b7, e'⟩ := DrawRecOk_k l1 hby1 6
      have s1 := spec_RecText_k a0 a1 a2 a3 a4 a5 a6 a7 3
      have i1 := impl_RecText_k a0 a1 a2 a3 a4 a5 a6 a7 0
      have i2 := impl_RecText_k b0 b1 b2 b3 b4 b5 b6 b7 0
      simp only [Nat.reduceAdd] at e e' s1 i1 i2
      simp only [e, e', Option.bind_some, s1, i1, i2, if_true, beq_self_eq_true]
      split
      · rfl
      split
      · rfl
      · rename_i h1 h2
        have ok : recOkB a0 a1 a2 a3 a4 a5 a6 a7 = true := by
          cases q : recOkB a0 a1 a2 a3 a4 a5 a6 a7 with
          | true => rfl
          | false => exact absurd (by rw [recText_list, q]; rfl) h1
        have ok' : recOkB b0 b1 b2 b3 b4 b5 b6 b7 = true := by
          cases q : recOkB b0 b1 b2 b3 b4 b5 b6 b7 with
          | true => rfl
          | false => exact absurd (by rw [recText_list, q]; rfl) h2
        congr 1
        rw [recText_list, recText_list, if_pos ok, if_pos ok', beq_iff_eq, Bool.eq_iff_iff]
        simp only [beq_iff_eq, Bool.and_eq_true]
        constructor
        · intro h
          obtain ⟨hk, hn⟩ := recL_inj (ns := [a1, a2, a3, a4, a5, a6, a7]) (ms := [b1, b2, b3, b4, b5, b6, b7]) (recOk_small ok).1 (recOk_small ok').1 rfl (by simp) h
          simp only [List.cons.injEq, and_true] at hn
          exact ⟨hk, hn⟩
        · rintro ⟨rfl, rfl, rfl, rfl, rfl, rfl, rfl, rfl⟩
          rfl
  unfold laws_FnRecSame.f
  split
  · exact key _
  · exact key _
theorem FnRecSame_walk (A : Option Addr) (c : Nat) (l : List Int) (A1 : Option Addr) (c1 : Nat) (l1 : List Int) (w : World) (htab : Lib.TabIs Tryd.prog w "internal/strconv.uint64pow10" .u64 Lib.pow10Tab) (hc : l.length ≤ c) (hC : Kd.C (Kd.int .u8) w A l.length l) (hby : Bytes l) (hc1 : l1.length ≤ c1) (hC1 : Kd.C (Kd.int .u8) w A1 l1.length l1) (hby1 : Bytes l1) :
    Calls Tryd.prog 7 #[.slice A l.length c, .slice A1 l1.length c1] w fun e w' => e = .returned (.bool true) ∧ Below w.heap.size w w' :=
  laws_FnRecSame.calls 9 A c l A1 c1 l1 true w htab hC hc hC1 hc1 (PureFnRecSame l l1 hby hby1) ⟨rfl⟩
end Go.Proofs.YtajdjoggflagdaaDoor.T
