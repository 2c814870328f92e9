/- The texts of pages: how long they are, and that they tell a page's own. -/
import Derived.Test.YtajdjoggflagdaaDoorPTp
import Derived.Test.YtajdjoggflagdaaDoorDrawPg
import Derived.Test.YtajdjoggflagdaaDoorPrDPT
namespace Go.Proofs.YtajdjoggflagdaaDoor.T
open Go.RowKit Go.Proofs.YtajdjoggflagdaaDoorW.PrintWords Go.Proofs.YtajdjoggflagdaaDoor.Pr
set_option linter.unusedSimpArgs false
set_option linter.unusedVariables false
theorem toList_mk (l : List UInt8) : (⟨l.toArray⟩ : ByteArray).toList = l := by simp
theorem figure_inj {a b : Int} (ha : 0 ≤ a ∧ a ≤ 9) (hb : 0 ≤ b ∧ b ≤ 9) (h : UInt8.ofNat (48 + a.toNat) = UInt8.ofNat (48 + b.toNat)) : a = b := by
  have h2 := congrArg UInt8.toNat h
  simp only [UInt8.toNat_ofNat'] at h2
  omega
theorem txt3 (b x y z : Int) (hb : 0 ≤ b ∧ b ≤ 9) (hx : 0 ≤ x ∧ x ≤ 9) (hy : 0 ≤ y ∧ y ≤ 9) (hz : 0 ≤ z ∧ z ≤ 9) :
    txtL b [x, y, z] = [UInt8.ofNat (48 + b.toNat), 32, UInt8.ofNat (48 + x.toNat), 32, UInt8.ofNat (48 + y.toNat), 32, UInt8.ofNat (48 + z.toNat)] := by
  unfold txtL
  rw [dgt_one b hb.1 (by omega)]
  simp only [List.flatMap_cons, List.flatMap_nil]
  rw [dgt_one x hx.1 (by omega), dgt_one y hy.1 (by omega), dgt_one z hz.1 (by omega)]
  rfl
theorem ok3 {a b : Int} {l : List Int} (h : pageOkB a b l = true) : ∃ x y z, l = [x, y, z] ∧ (0 ≤ b ∧ b ≤ 9) ∧ (0 ≤ x ∧ x ≤ 9) ∧ (0 ≤ y ∧ y ≤ 9) ∧ (0 ≤ z ∧ z ≤ 9) := by
  obtain ⟨hl, h0, h3, hv⟩ := pageOkB_own h
  match l, hl with
  | [x, y, z], _ =>
    refine ⟨x, y, z, rfl, ⟨h0, by omega⟩, ?_, ?_, ?_⟩
    · exact hv 0 (by simp)
    · exact hv 1 (by simp)
    · exact hv 2 (by simp)
theorem txt_inj {a b a' b' : Int} {l l' : List Int} (h : pageOkB a b l = true) (h' : pageOkB a' b' l' = true) (e : txtL b l = txtL b' l') : b = b' ∧ l = l' := by
  obtain ⟨x, y, z, rfl, hb, hx, hy, hz⟩ := ok3 h
  obtain ⟨x', y', z', rfl, hb', hx', hy', hz'⟩ := ok3 h'
  rw [txt3 b x y z hb hx hy hz, txt3 b' x' y' z' hb' hx' hy' hz'] at e
  simp only [List.cons.injEq, true_and, and_true] at e
  obtain ⟨e1, e2, e3, e4⟩ := e
  exact ⟨figure_inj hb hb' e1, by rw [figure_inj hx hx' e2, figure_inj hy hy' e3, figure_inj hz hz' e4]⟩
theorem txt_seven {a b : Int} {l : List Int} (h : pageOkB a b l = true) : (txtL b l).length = 7 := by
  obtain ⟨x, y, z, rfl, hb, hx, hy, hz⟩ := ok3 h
  rw [txt3 b x y z hb hx hy hz]
  rfl
theorem pageText_list (a b : Int) (l : List Int) : (pageTextB a b l).toList = if pageOkB a b l = true then txtL b l else [] := by
  unfold pageTextB
  split
  · exact toList_mk _
  · exact toList_mk []
theorem DrawPageText_k (l : List Int) (hby : Bytes l) (k : Nat) : ∃ a b v, spec_DrawPageText.f (k + 6) l = some (a, b, v) ∧ v.length ≤ 3 := by
  obtain ⟨b, hf, hl, hm⟩ := open_f l
  have hb : Bytes b := fun x hx => hby x (hm x hx)
  unfold spec_DrawPageText.f
  obtain ⟨q1, q2, q3, p, e1, h3, p1, p2⟩ := l71P_k b hb hl 0 (by omega) (by omega) k
  simp only [hf, Option.bind_some, e1]
  exact ⟨_, _, _, rfl, h3⟩
end Go.Proofs.YtajdjoggflagdaaDoor.T
