/- The contract of markPage, in the print's words. -/
import Derived.Test.YtcefiblpnegepaaPrXH
import Derived.Test.YtcefiblpnegepaaPage2
import Derived.Test.YtcefiblpnegepaaWLogB
namespace Go.Proofs.Ytcefiblpnegepaa.Pr
open Go.RowKit Go.Proofs.YtcefiblpnegepaaW.PrintWords Go.Proofs.YtcefiblpnegepaaW.PrintLast Go.Proofs.YtcefiblpnegepaaW.PrintMore Go.Proofs.Ytcefiblpnegepaa.T
set_option linter.unusedVariables false
set_option linter.unusedSimpArgs false
set_option maxRecDepth 100000 in
theorem laws_markPage.calls (k : Nat) (a0_0 : Int) (a0_1 : Int) (P0_2_ : Nat → Prop) (u9000_ : Value) (l0_2 : List Int) (a1 : Int) (r1 : Int) (r2 : List Int) (w0 w : World) (hB : Below w0.heap.size w0 w) (ho0_2 : Kd.R (Kd.int .i64) 3 w w0.heap.size P0_2_ u9000_ l0_2) (h : laws_markPage.f k a0_0 a0_1 l0_2 a1 = some (r1, r2)) :
    Calls Try.prog 54 #[.agg #[.int .i64 a0_0, .int .i64 a0_1, u9000_], .int .i64 a1] w fun e w' => e = .returned (.int .i64 r1) ∧ Kd.R (Kd.int .i64) 3 w' w0.heap.size (fun k_ => (P0_2_ k_ ∨ w.heap.size ≤ k_)) u9000_ r2 ∧ Below w0.heap.size w0 w' ∧ Kept w w' (fun k_ => P0_2_ k_) := by
  have hm : laws_markIntS.f k l0_2 a1 = some (r1, r2) := by
    unfold laws_markPage.f at h
    obtain ⟨⟨x, y⟩, e1, e2⟩ := Option.bind_eq_some_iff.mp h
    rw [e1]
    exact e2
  obtain ⟨A, c, rfl⟩ := Kd.R_slice ho0_2
  have HM := Aside0.mk hm
  have HO := Aside0.mk ho0_2
  have HB := Aside0.mk hB
  have hz := hB.size
  clear hm h ho0_2 hB
  go_enter Try.func54, Try.ntmps54
  go_wp2_with fail
  refine (laws_markIntS.calls k P0_2_ (.slice A l0_2.length c) l0_2 a1 r1 r2 w0 _ (below_alloc HB.out _) (Kd.R_alloc HO.out _) HM.out).mono ?_
  rintro e w1 ⟨rfl, hr, hb, hk⟩
  have HR := Aside0.mk hr
  have HB1 := Aside0.mk hb
  have HK := Aside0.mk hk
  have hz1 := hk.1
  (try simp at hz1)
  clear hr hb hk
  go_wp2_with fail
  go_ret
  refine ⟨rfl, Kd.R_mono HR.out (fun k_ hk => hk.imp_right fun h => by simp at h; omega), HB1.out, ?_⟩
  exact ((Kept.refl w _).alloc _).then_ HK.out (fun k hk => .inl hk)
end Go.Proofs.Ytcefiblpnegepaa.Pr
