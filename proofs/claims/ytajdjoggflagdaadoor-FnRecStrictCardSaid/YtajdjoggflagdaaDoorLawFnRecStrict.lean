/- What FnRecStrict tells is true; the walk of the law. -/
import Derived.Test.YtajdjoggflagdaaDoorLawFnExactRecRead
import Derived.Test.YtajdjoggflagdaaDoorPrDRR
import Derived.Test.YtajdjoggflagdaaDoorPrLawST
import Derived.Test.YtajdjoggflagdaaDoorOpenF
import Derived.Test.YtajdjoggflagdaaDoorRec71
namespace Go.Proofs.YtajdjoggflagdaaDoor.T
open Go.RowKit Go.Proofs.YtajdjoggflagdaaDoorW.PrintWords Go.Proofs.YtajdjoggflagdaaDoor.Pr
set_option linter.unusedSimpArgs false
set_option linter.unusedVariables false
theorem recText_size (k tx p s o n pv nx : Int) : (recTextB k tx p s o n pv nx).size ≤ 30 := by
  cases q : recOkB k tx p s o n pv nx with
  | true =>
    have h : (recTextB k tx p s o n pv nx).data.toList = recL k [tx, p, s, o, n, pv, nx] := by rw [← ba_listR, recText_list, if_pos q]
    have h2 : (recTextB k tx p s o n pv nx).size = (recL k [tx, p, s, o, n, pv, nx]).length := by rw [← h]; rfl
    rw [h2]; exact rec_30 q
  | false =>
    unfold recTextB
    rw [q]
    show 0 ≤ 30
    omega
theorem DrawRecRead_k (l : List Int) (hby : Bytes l) (k : Nat) : ∃ s, spec_DrawRecRead.f (k + 5) l = some s ∧ s.size ≤ 40 := by
  obtain ⟨b, hf, hl, hm⟩ := open_f l
  have hb : Bytes b := fun x hx => hby x (hm x hx)
  unfold spec_DrawRecRead.f
  obtain ⟨c0, c1, c2, c3, c4, c5, c6, c7, p', e, h1, h2⟩ := l71_k b hb hl 0 (by omega) (by omega) (k + 3)
  have e' : spec_l71Rec.f (k + 5) b 0 = some (c0, c1, c2, c3, c4, c5, c6, c7, p') := (congrArg (fun q_ => spec_l71Rec.f q_ b 0 = some (c0, c1, c2, c3, c4, c5, c6, c7, p')) (show k + 3 + 2 = k + 5 by omega)).mp e
  have ht := spec_RecText_k c0 c1 c2 c3 c4 c5 c6 c7 k
  have hz := recText_size c0 c1 c2 c3 c4 c5 c6 c7
  simp only [hf, Option.bind_some, e']
  rw [ht]
  generalize recTextB c0 c1 c2 c3 c4 c5 c6 c7 = t at hz ht
  rw [Option.bind_some, T.wrap_small (by omega) (by omega)]
  obtain ⟨r0, f0, g0, g1⟩ := pick_k b hb hl p' ((t.size : Int) + 1) (by omega) (by omega) (by omega) (k + 4)
  have f0' : spec_l6Rd_pick.f (k + 5) b p' ((t.size : Int) + 1) = some (r0, p' + 1) := (congrArg (fun q_ => spec_l6Rd_pick.f q_ b p' ((t.size : Int) + 1) = some (r0, p' + 1)) (show k + 4 + 1 = k + 5 by omega)).mp f0
  obtain ⟨r1, f1, _⟩ := pick_k b hb hl (p' + 1) 7 (by omega) (by omega) (by omega) (k + 4)
  have f1' : spec_l6Rd_pick.f (k + 5) b (p' + 1) 7 = some (r1, p' + 1 + 1) := (congrArg (fun q_ => spec_l6Rd_pick.f q_ b (p' + 1) 7 = some (r1, p' + 1 + 1)) (show k + 4 + 1 = k + 5 by omega)).mp f1
  obtain ⟨r2, f2, g2, g3⟩ := pick_k b hb hl (p' + 1 + 1) 5 (by omega) (by omega) (by omega) (k + 4)
  have f2' : spec_l6Rd_pick.f (k + 5) b (p' + 1 + 1) 5 = some (r2, p' + 1 + 1 + 1) := (congrArg (fun q_ => spec_l6Rd_pick.f q_ b (p' + 1 + 1) 5 = some (r2, p' + 1 + 1 + 1)) (show k + 4 + 1 = k + 5 by omega)).mp f2
  rw [f0', Option.bind_some]
  show ∃ s : ByteArray, ((spec_l6Rd_pick.f (k + 5) b (p' + 1) 7).bind _) = some s ∧ s.size ≤ 40
  rw [f1', Option.bind_some]
  dsimp only
  have hx0 : (t.extract 0 r0.toNat).size ≤ 30 := by rw [ByteArray.size_extract]; omega
  have hx1 : (t.extract r0.toNat t.size).size ≤ 30 := by rw [ByteArray.size_extract]; omega
  have hxs : (t.extract 0 r0.toNat).size + (t.extract r0.toNat t.size).size ≤ 30 := by rw [ByteArray.size_extract, ByteArray.size_extract]; omega
  by_cases h0 : r1 = 0
  · rw [if_pos h0, if_pos (by omega), if_pos (by omega)]
    exact ⟨_, rfl, by omega⟩
  rw [if_neg h0]
  by_cases h1 : r1 = 1
  · rw [if_pos h1, if_pos (by omega), if_pos (by omega)]
    unfold spec_l6Rd_of.f
    have hlen : (([(⟨#[48]⟩ : ByteArray), (⟨#[32]⟩ : ByteArray), (⟨#[49]⟩ : ByteArray), (⟨#[45]⟩ : ByteArray), (⟨#[32, 48]⟩ : ByteArray)] : List ByteArray).length : Int) = 5 := rfl
    rw [hlen, f2']
    simp only [Option.bind_some]
    rw [if_pos (by omega), if_pos (by omega)]
    simp only [Option.bind_some]
    have hq : (rdOf ByteArray.empty [(⟨#[48]⟩ : ByteArray), (⟨#[32]⟩ : ByteArray), (⟨#[49]⟩ : ByteArray), (⟨#[45]⟩ : ByteArray), (⟨#[32, 48]⟩ : ByteArray)] r2).size ≤ 2 := by
      have : r2 = 0 ∨ r2 = 1 ∨ r2 = 2 ∨ r2 = 3 ∨ r2 = 4 := by omega
      rcases this with rfl | rfl | rfl | rfl | rfl <;> decide
    rw [if_pos (by omega), if_pos (by rw [ByteArray.size_append]; omega)]
    exact ⟨_, rfl, by rw [ByteArray.size_append, ByteArray.size_append]; omega⟩
  · rw [if_neg h1]
    exact ⟨_, rfl, by omega⟩
theorem PureFnRecStrict (l : List Int) (hby : Bytes l) : laws_FnRecStrict.f 40 l = some true := by
  unfold laws_FnRecStrict.f
  by_cases h0 : (l.length : Int) > 1048576
  · rw [if_pos h0]
  rw [if_neg h0]
  obtain ⟨s, e, hs⟩ := DrawRecRead_k l hby 35
  obtain ⟨c0, c1, c2, c3, c4, c5, c6, c7, b, e1, e2, g⟩ := RecRead_same s (by omega)
  have e' : spec_DrawRecRead.f 40 l = some s := e
  simp only [e', e1, e2, Option.bind_some, bne_self_eq_false, Bool.false_eq_true, if_false, beq_self_eq_true, Bool.not_true, Bool.or_self]
  rw [show (40 : Nat) = 39 + 1 from rfl, laws_FnRecStrict.j0]
  cases b with
  | false => simp
  | true =>
    obtain ⟨ok, ht⟩ := g rfl
    have i1 : impl_RecText.f 39 c0 c1 c2 c3 c4 c5 c6 c7 = some (recTextB c0 c1 c2 c3 c4 c5 c6 c7) := impl_RecText_k c0 c1 c2 c3 c4 c5 c6 c7 31
    simp [impl_RecOk.f, ok, i1, ht]
theorem FnRecStrict_walk (A : Option Addr) (c : Nat) (l : List Int) (w : World) (hdoor : Door w) (hc : l.length ≤ c) (hC : Kd.C (Kd.int .u8) w A l.length l) (hby : Bytes l) :
    Calls Tryd.prog 11 #[.slice A l.length c] w fun e w' => e = .returned (.bool true) ∧ Below w.heap.size w w' :=
  laws_FnRecStrict.calls 40 A c l true w hdoor hC hc (PureFnRecStrict l hby) ⟨rfl⟩
end Go.Proofs.YtajdjoggflagdaaDoor.T
