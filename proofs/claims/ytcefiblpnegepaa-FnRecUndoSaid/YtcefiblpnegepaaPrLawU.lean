-- Laid by a program (extract.py) out of this seat's translation: contracts of a few functions, a text a function; Lean checks them.
import Derived.Test.YtcefiblpnegepaaPrK
import Derived.Test.YtcefiblpnegepaaRB
import Derived.Test.YtcefiblpnegepaaPrDRB
import Derived.Test.YtcefiblpnegepaaPrIRD
import Derived.Test.YtcefiblpnegepaaWLog
namespace Go.Proofs.Ytcefiblpnegepaa.Pr
open Go.RowKit Go.Proofs.YtcefiblpnegepaaW.PrintWords Go.Proofs.YtcefiblpnegepaaW.PrintLast Go.Proofs.YtcefiblpnegepaaW.PrintMore
attribute [local go_sem] max2_int min2_int max_two min_two max_three min_three max_four min_four
set_option linter.unusedVariables false
set_option linter.unusedSimpArgs false
theorem eqA41 (d : Nat) (w : World) (x0 y0 : Int) (x1 y1 : Int) (x2 y2 : Int) (x3 y3 : Int) (x4 y4 : Int) (x5 y5 : Int) (x6 y6 : Int) (x7 y7 : Int) :
    (Op.equalIn (d + 2) 41 (.agg #[.int .i64 x0, .int .i64 x1, .int .i64 x2, .int .i64 x3, .int .i64 x4, .int .i64 x5, .int .i64 x6, .int .i64 x7]) (.agg #[.int .i64 y0, .int .i64 y1, .int .i64 y2, .int .i64 y3, .int .i64 y4, .int .i64 y5, .int .i64 y6, .int .i64 y7])).run Try.prog w = .ok (x0 == y0 && (x1 == y1 && (x2 == y2 && (x3 == y3 && (x4 == y4 && (x5 == y5 && (x6 == y6 && (x7 == y7)))))))) w := by
  refine eqA_of Try.underlying41 (by kernel_rfl) ?_
  refine eqf_cons (by rfl) (by go_simp; rfl) (by go_simp; rfl) (by go_simp) ?_
  refine eqf_cons (by rfl) (by go_simp; rfl) (by go_simp; rfl) (by go_simp) ?_
  refine eqf_cons (by rfl) (by go_simp; rfl) (by go_simp; rfl) (by go_simp) ?_
  refine eqf_cons (by rfl) (by go_simp; rfl) (by go_simp; rfl) (by go_simp) ?_
  refine eqf_cons (by rfl) (by go_simp; rfl) (by go_simp; rfl) (by go_simp) ?_
  refine eqf_cons (by rfl) (by go_simp; rfl) (by go_simp; rfl) (by go_simp) ?_
  refine eqf_cons (by rfl) (by go_simp; rfl) (by go_simp; rfl) (by go_simp) ?_
  exact eqf_last (by rfl) (by go_simp; rfl) (by go_simp; rfl) (by go_simp)
attribute [local go_sem high] eqA41
/-! ### laws_FnRecUndo: function 7 -/
mutual
def laws_FnRecUndo.j0 : Nat → Int → Bool → Bool → Bool → Int → Int → Int → Int → Int → Int → Int → Int → Int → Int → Int → Int → Int → Int → Int → Int → Int → Int → Int → Int → Int → Int → Int → Int → Option (Bool)
  | 0, _, _, _, _, _, _, _, _, _, _, _, _, _, _, _, _, _, _, _, _, _, _, _, _, _, _, _, _ => none
  | k + 1, x4, x6, x8, x45, x539000, x539001, x539002, x539003, x539004, x539005, x539006, x539007, x549000, x549001, x549002, x549003, x549004, x549005, x549006, x549007, x559000, x559001, x559002, x559003, x559004, x559005, x559006, x559007 => if x45 = true then (if (x8 == x6) = true then (some (x559000 == x549000 && (x559001 == x549001 && (x559002 == x549002 && (x559003 == x549003 && (x559004 == x549004 && (x559005 == x549005 && (x559006 == x549006 && (x559007 == x549007))))))))) else (some false)) else (if x559000 = 6 then (if x559001 = x539001 then (if x559002 = x539002 then (if x559003 = x539003 then (if x559005 = x539004 then (if x559006 = x4 then (if x559007 = x539006 then ((impl_RecOk.f k x559000 x559001 x559002 x559003 x559004 x559005 x559006 x559007).bind fun t559 => (laws_FnRecUndo.j1 k (!t559) x539000 x539001 x539002 x539003 x539004 x539005 x539006 x539007 x559000 x559001 x559002 x559003 x559004 x559005 x559006 x559007)) else (laws_FnRecUndo.j1 k true x539000 x539001 x539002 x539003 x539004 x539005 x539006 x539007 x559000 x559001 x559002 x559003 x559004 x559005 x559006 x559007)) else (laws_FnRecUndo.j1 k true x539000 x539001 x539002 x539003 x539004 x539005 x539006 x539007 x559000 x559001 x559002 x559003 x559004 x559005 x559006 x559007)) else (laws_FnRecUndo.j1 k true x539000 x539001 x539002 x539003 x539004 x539005 x539006 x539007 x559000 x559001 x559002 x559003 x559004 x559005 x559006 x559007)) else (laws_FnRecUndo.j1 k true x539000 x539001 x539002 x539003 x539004 x539005 x539006 x539007 x559000 x559001 x559002 x559003 x559004 x559005 x559006 x559007)) else (laws_FnRecUndo.j1 k true x539000 x539001 x539002 x539003 x539004 x539005 x539006 x539007 x559000 x559001 x559002 x559003 x559004 x559005 x559006 x559007)) else (laws_FnRecUndo.j1 k true x539000 x539001 x539002 x539003 x539004 x539005 x539006 x539007 x559000 x559001 x559002 x559003 x559004 x559005 x559006 x559007)) else (laws_FnRecUndo.j1 k true x539000 x539001 x539002 x539003 x539004 x539005 x539006 x539007 x559000 x559001 x559002 x559003 x559004 x559005 x559006 x559007))
def laws_FnRecUndo.j1 : Nat → Bool → Int → Int → Int → Int → Int → Int → Int → Int → Int → Int → Int → Int → Int → Int → Int → Int → Option (Bool)
  | 0, _, _, _, _, _, _, _, _, _, _, _, _, _, _, _, _, _ => none
  | k + 1, x102, x539000, x539001, x539002, x539003, x539004, x539005, x539006, x539007, x559000, x559001, x559002, x559003, x559004, x559005, x559006, x559007 => if x102 = true then (some false) else ((some (([4, 5, 6] : List Int) : List Int)).bind fun y560 => (if x539003 ≥ 0 then (if 0 ≤ x539003 then (if x539003 < (y560.length : Int) then ((some (y560.set (x539003 : Int).toNat x539004 : List Int)).bind fun y564 => ((impl_RecDo.f k 0 2 y564 x539000 x539001 x539002 x539003 x539004 x539005 x539006 x539007 1).bind fun bt565 => ((impl_RecDo.f k bt565.1 bt565.2.1 bt565.2.2.1 x559000 x559001 x559002 x559003 x559004 x559005 x559006 x559007 2).bind fun bt572 => (if bt565.2.2.2 = true then (if bt572.2.2.2 = true then ((laws_ltHas.f k bt572.1 bt572.2.1 bt572.2.2.1 0 2 y564).bind fun t579 => (some t579)) else (some false)) else (some false))))) else (none)) else (none)) else ((some (([0, 0, 0] : List Int) : List Int)).bind fun y580 => ((impl_RecDo.f k 0 x539004 y580 x539000 x539001 x539002 x539003 x539004 x539005 x539006 x539007 1).bind fun bt583 => ((impl_RecDo.f k bt583.1 bt583.2.1 bt583.2.2.1 x559000 x559001 x559002 x559003 x559004 x559005 x559006 x559007 2).bind fun bt590 => (if bt583.2.2.2 = true then (if bt590.2.2.2 = true then ((laws_ltHas.f k bt590.1 bt590.2.1 bt590.2.2.1 0 x539004 y580).bind fun t597 => (some t597)) else (some false)) else (some false)))))))
end
def laws_FnRecUndo.f (k : Nat) (l0 : List Int) : Option (Bool) := if (l0.length : Int) > 1048576 then (some true) else ((spec_DrawRecBack.f k l0).bind fun bt529 => ((spec_RecBack.f k bt529.1 bt529.2.1 bt529.2.2.1 bt529.2.2.2.1 bt529.2.2.2.2.1 bt529.2.2.2.2.2.1 bt529.2.2.2.2.2.2.1 bt529.2.2.2.2.2.2.2.1 bt529.2.2.2.2.2.2.2.2).bind fun bt539 => ((impl_RecBack.f k bt529.1 bt529.2.1 bt529.2.2.1 bt529.2.2.2.1 bt529.2.2.2.2.1 bt529.2.2.2.2.2.1 bt529.2.2.2.2.2.2.1 bt529.2.2.2.2.2.2.2.1 bt529.2.2.2.2.2.2.2.2).bind fun bt549 => (if (bt549.2.2.2.2.2.2.2.2 != bt539.2.2.2.2.2.2.2.2) = true then (laws_FnRecUndo.j0 k bt529.2.2.2.2.2.2.2.2 bt539.2.2.2.2.2.2.2.2 bt549.2.2.2.2.2.2.2.2 true bt529.1 bt529.2.1 bt529.2.2.1 bt529.2.2.2.1 bt529.2.2.2.2.1 bt529.2.2.2.2.2.1 bt529.2.2.2.2.2.2.1 bt529.2.2.2.2.2.2.2.1 bt539.1 bt539.2.1 bt539.2.2.1 bt539.2.2.2.1 bt539.2.2.2.2.1 bt539.2.2.2.2.2.1 bt539.2.2.2.2.2.2.1 bt539.2.2.2.2.2.2.2.1 bt549.1 bt549.2.1 bt549.2.2.1 bt549.2.2.2.1 bt549.2.2.2.2.1 bt549.2.2.2.2.2.1 bt549.2.2.2.2.2.2.1 bt549.2.2.2.2.2.2.2.1) else (if (!(bt549.1 == bt539.1) || (!(bt549.2.1 == bt539.2.1) || (!(bt549.2.2.1 == bt539.2.2.1) || (!(bt549.2.2.2.1 == bt539.2.2.2.1) || (!(bt549.2.2.2.2.1 == bt539.2.2.2.2.1) || (!(bt549.2.2.2.2.2.1 == bt539.2.2.2.2.2.1) || (!(bt549.2.2.2.2.2.2.1 == bt539.2.2.2.2.2.2.1) || (!(bt549.2.2.2.2.2.2.2.1 == bt539.2.2.2.2.2.2.2.1))))))))) = true then (laws_FnRecUndo.j0 k bt529.2.2.2.2.2.2.2.2 bt539.2.2.2.2.2.2.2.2 bt549.2.2.2.2.2.2.2.2 true bt529.1 bt529.2.1 bt529.2.2.1 bt529.2.2.2.1 bt529.2.2.2.2.1 bt529.2.2.2.2.2.1 bt529.2.2.2.2.2.2.1 bt529.2.2.2.2.2.2.2.1 bt539.1 bt539.2.1 bt539.2.2.1 bt539.2.2.2.1 bt539.2.2.2.2.1 bt539.2.2.2.2.2.1 bt539.2.2.2.2.2.2.1 bt539.2.2.2.2.2.2.2.1 bt549.1 bt549.2.1 bt549.2.2.1 bt549.2.2.2.1 bt549.2.2.2.2.1 bt549.2.2.2.2.2.1 bt549.2.2.2.2.2.2.1 bt549.2.2.2.2.2.2.2.1) else (laws_FnRecUndo.j0 k bt529.2.2.2.2.2.2.2.2 bt539.2.2.2.2.2.2.2.2 bt549.2.2.2.2.2.2.2.2 (!bt549.2.2.2.2.2.2.2.2) bt529.1 bt529.2.1 bt529.2.2.1 bt529.2.2.2.1 bt529.2.2.2.2.1 bt529.2.2.2.2.2.1 bt529.2.2.2.2.2.2.1 bt529.2.2.2.2.2.2.2.1 bt539.1 bt539.2.1 bt539.2.2.1 bt539.2.2.2.1 bt539.2.2.2.2.1 bt539.2.2.2.2.2.1 bt539.2.2.2.2.2.2.1 bt539.2.2.2.2.2.2.2.1 bt549.1 bt549.2.1 bt549.2.2.1 bt549.2.2.2.1 bt549.2.2.2.2.1 bt549.2.2.2.2.2.1 bt549.2.2.2.2.2.2.1 bt549.2.2.2.2.2.2.2.1))))))
theorem laws_FnRecUndo.mono_l : ∀ k, (∀ y0 y1 y2 y3 y4 y5 y6 y7 y8 y9 y10 y11 y12 y13 y14 y15 y16 y17 y18 y19 y20 y21 y22 y23 y24 y25 y26 y27, LeO (laws_FnRecUndo.j0 k y0 y1 y2 y3 y4 y5 y6 y7 y8 y9 y10 y11 y12 y13 y14 y15 y16 y17 y18 y19 y20 y21 y22 y23 y24 y25 y26 y27) (laws_FnRecUndo.j0 (k + 1) y0 y1 y2 y3 y4 y5 y6 y7 y8 y9 y10 y11 y12 y13 y14 y15 y16 y17 y18 y19 y20 y21 y22 y23 y24 y25 y26 y27)) ∧ (∀ y0 y1 y2 y3 y4 y5 y6 y7 y8 y9 y10 y11 y12 y13 y14 y15 y16, LeO (laws_FnRecUndo.j1 k y0 y1 y2 y3 y4 y5 y6 y7 y8 y9 y10 y11 y12 y13 y14 y15 y16) (laws_FnRecUndo.j1 (k + 1) y0 y1 y2 y3 y4 y5 y6 y7 y8 y9 y10 y11 y12 y13 y14 y15 y16))
  | 0 => ⟨fun _ _ _ _ _ _ _ _ _ _ _ _ _ _ _ _ _ _ _ _ _ _ _ _ _ _ _ _ r h => by simp [laws_FnRecUndo.j0] at h, fun _ _ _ _ _ _ _ _ _ _ _ _ _ _ _ _ _ r h => by simp [laws_FnRecUndo.j1] at h⟩
  | k + 1 => by
    obtain ⟨ih0, ih1⟩ := laws_FnRecUndo.mono_l k
    refine ⟨?_, ?_⟩
    · intro y0 y1 y2 y3 y4 y5 y6 y7 y8 y9 y10 y11 y12 y13 y14 y15 y16 y17 y18 y19 y20 y21 y22 y23 y24 y25 y26 y27
      unfold laws_FnRecUndo.j0
      repeat' first
      | (with_reducible exact ih0 _ _ _ _ _ _ _ _ _ _ _ _ _ _ _ _ _ _ _ _ _ _ _ _ _ _ _ _)
      | (with_reducible exact ih1 _ _ _ _ _ _ _ _ _ _ _ _ _ _ _ _ _)
      | (with_reducible exact impl_RecBack.mono _ _ _ _ _ _ _ _ _ _)
      | (with_reducible exact impl_RecDo.mono _ _ _ _ _ _ _ _ _ _ _ _ _)
      | (with_reducible exact impl_RecOk.mono _ _ _ _ _ _ _ _ _)
      | (with_reducible exact laws_ltHas.mono _ _ _ _ _ _ _)
      | (with_reducible exact spec_DrawRecBack.mono _ _)
      | (with_reducible exact spec_RecBack.mono _ _ _ _ _ _ _ _ _ _)
      | (with_reducible exact LeO.refl _)
      | (with_reducible exact LeO.none _)
      | (with_reducible refine LeO.ite ?_ ?_)
      | (with_reducible refine LeO.bind ?_ (fun _ => ?_))
      | exact ih0 _ _ _ _ _ _ _ _ _ _ _ _ _ _ _ _ _ _ _ _ _ _ _ _ _ _ _ _
      | exact ih1 _ _ _ _ _ _ _ _ _ _ _ _ _ _ _ _ _
      | exact impl_RecBack.mono _ _ _ _ _ _ _ _ _ _
      | exact impl_RecDo.mono _ _ _ _ _ _ _ _ _ _ _ _ _
      | exact impl_RecOk.mono _ _ _ _ _ _ _ _ _
      | exact laws_ltHas.mono _ _ _ _ _ _ _
      | exact spec_DrawRecBack.mono _ _
      | exact spec_RecBack.mono _ _ _ _ _ _ _ _ _ _
      | exact LeO.none _
      | refine LeO.ite ?_ ?_
      | refine LeO.bind ?_ (fun _ => ?_)
    · intro y0 y1 y2 y3 y4 y5 y6 y7 y8 y9 y10 y11 y12 y13 y14 y15 y16
      unfold laws_FnRecUndo.j1
      repeat' first
      | (with_reducible exact ih0 _ _ _ _ _ _ _ _ _ _ _ _ _ _ _ _ _ _ _ _ _ _ _ _ _ _ _ _)
      | (with_reducible exact ih1 _ _ _ _ _ _ _ _ _ _ _ _ _ _ _ _ _)
      | (with_reducible exact impl_RecBack.mono _ _ _ _ _ _ _ _ _ _)
      | (with_reducible exact impl_RecDo.mono _ _ _ _ _ _ _ _ _ _ _ _ _)
      | (with_reducible exact impl_RecOk.mono _ _ _ _ _ _ _ _ _)
      | (with_reducible exact laws_ltHas.mono _ _ _ _ _ _ _)
      | (with_reducible exact spec_DrawRecBack.mono _ _)
      | (with_reducible exact spec_RecBack.mono _ _ _ _ _ _ _ _ _ _)
      | (with_reducible exact LeO.refl _)
      | (with_reducible exact LeO.none _)
      | (with_reducible refine LeO.ite ?_ ?_)
      | (with_reducible refine LeO.bind ?_ (fun _ => ?_))
      | exact ih0 _ _ _ _ _ _ _ _ _ _ _ _ _ _ _ _ _ _ _ _ _ _ _ _ _ _ _ _
      | exact ih1 _ _ _ _ _ _ _ _ _ _ _ _ _ _ _ _ _
      | exact impl_RecBack.mono _ _ _ _ _ _ _ _ _ _
      | exact impl_RecDo.mono _ _ _ _ _ _ _ _ _ _ _ _ _
      | exact impl_RecOk.mono _ _ _ _ _ _ _ _ _
      | exact laws_ltHas.mono _ _ _ _ _ _ _
      | exact spec_DrawRecBack.mono _ _
      | exact spec_RecBack.mono _ _ _ _ _ _ _ _ _ _
      | exact LeO.none _
      | refine LeO.ite ?_ ?_
      | refine LeO.bind ?_ (fun _ => ?_)
theorem laws_FnRecUndo.mono : ∀ a0 k, LeO (laws_FnRecUndo.f k a0) (laws_FnRecUndo.f (k + 1) a0) := by
  intro a0 k
  obtain ⟨ih0, ih1⟩ := laws_FnRecUndo.mono_l k
  unfold laws_FnRecUndo.f
  repeat' first
      | (with_reducible exact ih0 _ _ _ _ _ _ _ _ _ _ _ _ _ _ _ _ _ _ _ _ _ _ _ _ _ _ _ _)
      | (with_reducible exact ih1 _ _ _ _ _ _ _ _ _ _ _ _ _ _ _ _ _)
      | (with_reducible exact impl_RecBack.mono _ _ _ _ _ _ _ _ _ _)
      | (with_reducible exact impl_RecDo.mono _ _ _ _ _ _ _ _ _ _ _ _ _)
      | (with_reducible exact impl_RecOk.mono _ _ _ _ _ _ _ _ _)
      | (with_reducible exact laws_ltHas.mono _ _ _ _ _ _ _)
      | (with_reducible exact spec_DrawRecBack.mono _ _)
      | (with_reducible exact spec_RecBack.mono _ _ _ _ _ _ _ _ _ _)
      | (with_reducible exact LeO.refl _)
      | (with_reducible exact LeO.none _)
      | (with_reducible refine LeO.ite ?_ ?_)
      | (with_reducible refine LeO.bind ?_ (fun _ => ?_))
      | exact ih0 _ _ _ _ _ _ _ _ _ _ _ _ _ _ _ _ _ _ _ _ _ _ _ _ _ _ _ _
      | exact ih1 _ _ _ _ _ _ _ _ _ _ _ _ _ _ _ _ _
      | exact impl_RecBack.mono _ _ _ _ _ _ _ _ _ _
      | exact impl_RecDo.mono _ _ _ _ _ _ _ _ _ _ _ _ _
      | exact impl_RecOk.mono _ _ _ _ _ _ _ _ _
      | exact laws_ltHas.mono _ _ _ _ _ _ _
      | exact spec_DrawRecBack.mono _ _
      | exact spec_RecBack.mono _ _ _ _ _ _ _ _ _ _
      | exact LeO.none _
      | refine LeO.ite ?_ ?_
      | refine LeO.bind ?_ (fun _ => ?_)
set_option maxHeartbeats 8000000 in
set_option maxRecDepth 100000 in
theorem laws_FnRecUndo.calls (k : Nat) (A0 : Option Addr) (c0 : Nat) (l0 : List Int) (r : Bool) (w : World) (hr0 : Kd.C (Kd.int .u8) w A0 l0.length l0) (hc0 : l0.length ≤ c0) (h : laws_FnRecUndo.f k l0 = some r) (hT_ : Aside0 (r = true)) :
    Calls Try.prog 7 #[.slice A0 l0.length c0] w fun e w' => e = .returned (.bool r) ∧ Below w.heap.size w w' := by
  have hu41 := Try.underlying41
  have hu25 := Try.underlying25
  have HR0 := Aside0.mk hr0
  have HC0 := Aside0.mk hc0
  clear hr0 hc0
  have HB := Aside0.mk (Below.refl w.heap.size w)
  have H : (if (l0.length : Int) > 1048576 then (some true) else ((spec_DrawRecBack.f k l0).bind fun bt529 => ((spec_RecBack.f k bt529.1 bt529.2.1 bt529.2.2.1 bt529.2.2.2.1 bt529.2.2.2.2.1 bt529.2.2.2.2.2.1 bt529.2.2.2.2.2.2.1 bt529.2.2.2.2.2.2.2.1 bt529.2.2.2.2.2.2.2.2).bind fun bt539 => ((impl_RecBack.f k bt529.1 bt529.2.1 bt529.2.2.1 bt529.2.2.2.1 bt529.2.2.2.2.1 bt529.2.2.2.2.2.1 bt529.2.2.2.2.2.2.1 bt529.2.2.2.2.2.2.2.1 bt529.2.2.2.2.2.2.2.2).bind fun bt549 => (if (bt549.2.2.2.2.2.2.2.2 != bt539.2.2.2.2.2.2.2.2) = true then (laws_FnRecUndo.j0 k bt529.2.2.2.2.2.2.2.2 bt539.2.2.2.2.2.2.2.2 bt549.2.2.2.2.2.2.2.2 true bt529.1 bt529.2.1 bt529.2.2.1 bt529.2.2.2.1 bt529.2.2.2.2.1 bt529.2.2.2.2.2.1 bt529.2.2.2.2.2.2.1 bt529.2.2.2.2.2.2.2.1 bt539.1 bt539.2.1 bt539.2.2.1 bt539.2.2.2.1 bt539.2.2.2.2.1 bt539.2.2.2.2.2.1 bt539.2.2.2.2.2.2.1 bt539.2.2.2.2.2.2.2.1 bt549.1 bt549.2.1 bt549.2.2.1 bt549.2.2.2.1 bt549.2.2.2.2.1 bt549.2.2.2.2.2.1 bt549.2.2.2.2.2.2.1 bt549.2.2.2.2.2.2.2.1) else (if (!(bt549.1 == bt539.1) || (!(bt549.2.1 == bt539.2.1) || (!(bt549.2.2.1 == bt539.2.2.1) || (!(bt549.2.2.2.1 == bt539.2.2.2.1) || (!(bt549.2.2.2.2.1 == bt539.2.2.2.2.1) || (!(bt549.2.2.2.2.2.1 == bt539.2.2.2.2.2.1) || (!(bt549.2.2.2.2.2.2.1 == bt539.2.2.2.2.2.2.1) || (!(bt549.2.2.2.2.2.2.2.1 == bt539.2.2.2.2.2.2.2.1))))))))) = true then (laws_FnRecUndo.j0 k bt529.2.2.2.2.2.2.2.2 bt539.2.2.2.2.2.2.2.2 bt549.2.2.2.2.2.2.2.2 true bt529.1 bt529.2.1 bt529.2.2.1 bt529.2.2.2.1 bt529.2.2.2.2.1 bt529.2.2.2.2.2.1 bt529.2.2.2.2.2.2.1 bt529.2.2.2.2.2.2.2.1 bt539.1 bt539.2.1 bt539.2.2.1 bt539.2.2.2.1 bt539.2.2.2.2.1 bt539.2.2.2.2.2.1 bt539.2.2.2.2.2.2.1 bt539.2.2.2.2.2.2.2.1 bt549.1 bt549.2.1 bt549.2.2.1 bt549.2.2.2.1 bt549.2.2.2.2.1 bt549.2.2.2.2.2.1 bt549.2.2.2.2.2.2.1 bt549.2.2.2.2.2.2.2.1) else (laws_FnRecUndo.j0 k bt529.2.2.2.2.2.2.2.2 bt539.2.2.2.2.2.2.2.2 bt549.2.2.2.2.2.2.2.2 (!bt549.2.2.2.2.2.2.2.2) bt529.1 bt529.2.1 bt529.2.2.1 bt529.2.2.2.1 bt529.2.2.2.2.1 bt529.2.2.2.2.2.1 bt529.2.2.2.2.2.2.1 bt529.2.2.2.2.2.2.2.1 bt539.1 bt539.2.1 bt539.2.2.1 bt539.2.2.2.1 bt539.2.2.2.2.1 bt539.2.2.2.2.2.1 bt539.2.2.2.2.2.2.1 bt539.2.2.2.2.2.2.2.1 bt549.1 bt549.2.1 bt549.2.2.1 bt549.2.2.2.1 bt549.2.2.2.2.1 bt549.2.2.2.2.2.1 bt549.2.2.2.2.2.2.1 bt549.2.2.2.2.2.2.2.1))))))) = some r := h
  clear h
  by_cases c2 : (l0.length : Int) > 1048576
  · rw [if_pos c2] at H
    have c2b0 : decide (1048576 < (l0.length : Int)) = true := decide_eq_true c2
    have c2b1 : decide (1048576 < l0.length) = true := decide_eq_true (by omega)
    clear c2
    obtain rfl := Option.some.inj H
    go_enter Try.func7, Try.ntmps7
    go_wp2
    go_ret
    exact ⟨by first | rfl | (simp [errW_none, errW_some] <;> rfl) | (simp [*, errW_none, errW_some] <;> rfl), by repeat (first | (with_reducible first | exact HB.out | apply below_alloc | apply pw_below_drewN | apply below_drew1) | exact HB.out)⟩
  · rw [if_neg c2] at H
    have c2b0 : decide (1048576 < (l0.length : Int)) = false := decide_eq_false c2
    have c2b1 : decide (1048576 < l0.length) = false := decide_eq_false (by omega)
    clear c2
    replace H := Option.bind_eq_some_iff.mp H
    obtain ⟨⟨t529, t530, t531, t532, t533, t534, t535, t536, t537⟩, A30, H⟩ := H
    replace H : ((spec_RecBack.f k t529 t530 t531 t532 t533 t534 t535 t536 t537).bind fun bt539 => ((impl_RecBack.f k t529 t530 t531 t532 t533 t534 t535 t536 t537).bind fun bt549 => (if (bt549.2.2.2.2.2.2.2.2 != bt539.2.2.2.2.2.2.2.2) = true then (laws_FnRecUndo.j0 k t537 bt539.2.2.2.2.2.2.2.2 bt549.2.2.2.2.2.2.2.2 true t529 t530 t531 t532 t533 t534 t535 t536 bt539.1 bt539.2.1 bt539.2.2.1 bt539.2.2.2.1 bt539.2.2.2.2.1 bt539.2.2.2.2.2.1 bt539.2.2.2.2.2.2.1 bt539.2.2.2.2.2.2.2.1 bt549.1 bt549.2.1 bt549.2.2.1 bt549.2.2.2.1 bt549.2.2.2.2.1 bt549.2.2.2.2.2.1 bt549.2.2.2.2.2.2.1 bt549.2.2.2.2.2.2.2.1) else (if (!(bt549.1 == bt539.1) || (!(bt549.2.1 == bt539.2.1) || (!(bt549.2.2.1 == bt539.2.2.1) || (!(bt549.2.2.2.1 == bt539.2.2.2.1) || (!(bt549.2.2.2.2.1 == bt539.2.2.2.2.1) || (!(bt549.2.2.2.2.2.1 == bt539.2.2.2.2.2.1) || (!(bt549.2.2.2.2.2.2.1 == bt539.2.2.2.2.2.2.1) || (!(bt549.2.2.2.2.2.2.2.1 == bt539.2.2.2.2.2.2.2.1))))))))) = true then (laws_FnRecUndo.j0 k t537 bt539.2.2.2.2.2.2.2.2 bt549.2.2.2.2.2.2.2.2 true t529 t530 t531 t532 t533 t534 t535 t536 bt539.1 bt539.2.1 bt539.2.2.1 bt539.2.2.2.1 bt539.2.2.2.2.1 bt539.2.2.2.2.2.1 bt539.2.2.2.2.2.2.1 bt539.2.2.2.2.2.2.2.1 bt549.1 bt549.2.1 bt549.2.2.1 bt549.2.2.2.1 bt549.2.2.2.2.1 bt549.2.2.2.2.2.1 bt549.2.2.2.2.2.2.1 bt549.2.2.2.2.2.2.2.1) else (laws_FnRecUndo.j0 k t537 bt539.2.2.2.2.2.2.2.2 bt549.2.2.2.2.2.2.2.2 (!bt549.2.2.2.2.2.2.2.2) t529 t530 t531 t532 t533 t534 t535 t536 bt539.1 bt539.2.1 bt539.2.2.1 bt539.2.2.2.1 bt539.2.2.2.2.1 bt539.2.2.2.2.2.1 bt539.2.2.2.2.2.2.1 bt539.2.2.2.2.2.2.2.1 bt549.1 bt549.2.1 bt549.2.2.1 bt549.2.2.2.1 bt549.2.2.2.2.1 bt549.2.2.2.2.2.1 bt549.2.2.2.2.2.2.1 bt549.2.2.2.2.2.2.2.1))))) = some r := H
    have A3 := Aside0.mk A30
    clear A30
    replace H := Option.bind_eq_some_iff.mp H
    obtain ⟨⟨t539, t540, t541, t542, t543, t544, t545, t546, t547⟩, A40, H⟩ := H
    replace H : ((impl_RecBack.f k t529 t530 t531 t532 t533 t534 t535 t536 t537).bind fun bt549 => (if (bt549.2.2.2.2.2.2.2.2 != t547) = true then (laws_FnRecUndo.j0 k t537 t547 bt549.2.2.2.2.2.2.2.2 true t529 t530 t531 t532 t533 t534 t535 t536 t539 t540 t541 t542 t543 t544 t545 t546 bt549.1 bt549.2.1 bt549.2.2.1 bt549.2.2.2.1 bt549.2.2.2.2.1 bt549.2.2.2.2.2.1 bt549.2.2.2.2.2.2.1 bt549.2.2.2.2.2.2.2.1) else (if (!(bt549.1 == t539) || (!(bt549.2.1 == t540) || (!(bt549.2.2.1 == t541) || (!(bt549.2.2.2.1 == t542) || (!(bt549.2.2.2.2.1 == t543) || (!(bt549.2.2.2.2.2.1 == t544) || (!(bt549.2.2.2.2.2.2.1 == t545) || (!(bt549.2.2.2.2.2.2.2.1 == t546))))))))) = true then (laws_FnRecUndo.j0 k t537 t547 bt549.2.2.2.2.2.2.2.2 true t529 t530 t531 t532 t533 t534 t535 t536 t539 t540 t541 t542 t543 t544 t545 t546 bt549.1 bt549.2.1 bt549.2.2.1 bt549.2.2.2.1 bt549.2.2.2.2.1 bt549.2.2.2.2.2.1 bt549.2.2.2.2.2.2.1 bt549.2.2.2.2.2.2.2.1) else (laws_FnRecUndo.j0 k t537 t547 bt549.2.2.2.2.2.2.2.2 (!bt549.2.2.2.2.2.2.2.2) t529 t530 t531 t532 t533 t534 t535 t536 t539 t540 t541 t542 t543 t544 t545 t546 bt549.1 bt549.2.1 bt549.2.2.1 bt549.2.2.2.1 bt549.2.2.2.2.1 bt549.2.2.2.2.2.1 bt549.2.2.2.2.2.2.1 bt549.2.2.2.2.2.2.2.1)))) = some r := H
    have A4 := Aside0.mk A40
    clear A40
    replace H := Option.bind_eq_some_iff.mp H
    obtain ⟨⟨t549, t550, t551, t552, t553, t554, t555, t556, t557⟩, A50, H⟩ := H
    replace H : (if (t557 != t547) = true then (laws_FnRecUndo.j0 k t537 t547 t557 true t529 t530 t531 t532 t533 t534 t535 t536 t539 t540 t541 t542 t543 t544 t545 t546 t549 t550 t551 t552 t553 t554 t555 t556) else (if (!(t549 == t539) || (!(t550 == t540) || (!(t551 == t541) || (!(t552 == t542) || (!(t553 == t543) || (!(t554 == t544) || (!(t555 == t545) || (!(t556 == t546))))))))) = true then (laws_FnRecUndo.j0 k t537 t547 t557 true t529 t530 t531 t532 t533 t534 t535 t536 t539 t540 t541 t542 t543 t544 t545 t546 t549 t550 t551 t552 t553 t554 t555 t556) else (laws_FnRecUndo.j0 k t537 t547 t557 (!t557) t529 t530 t531 t532 t533 t534 t535 t536 t539 t540 t541 t542 t543 t544 t545 t546 t549 t550 t551 t552 t553 t554 t555 t556))) = some r := H
    have A5 := Aside0.mk A50
    clear A50
    have HC6 := Aside0.mk H
    clear H
    go_enter Try.func7, Try.ntmps7
    go_upto_region 6 with (first | ((with_reducible refine gate_callee (f := 38) rfl ?_); refine goesL_ (some 19) rfl rfl Try.func38 (by kernel_rfl) rfl #[.slice A0 l0.length c0] rfl (by (try simp only [List.map_toArray, List.map_cons, List.map_nil]); first | done | rfl | (simp only [List.length_drop, List.length_take]; rfl)) ?_; (with_reducible refine (spec_DrawRecBack.calls k _ _ l0 t529 t530 t531 t532 t533 t534 t535 t536 t537 _ ?side1 ?side2 A3.out).mono ?_); (case side1 => repeat (first | exact HR0.out | (with_reducible refine Kd.C_alloc ?_ _) | (with_reducible refine Kd.C_drewN ?_ _) | (with_reducible refine Kd.C_drew ?_))); (case side2 => exact HC0.out); rintro e w7 ⟨rfl, hb⟩; refine ⟨_, rfl, ?_⟩; have n0_ := Aside0.mk (below_step (by repeat (first | (with_reducible first | exact HB.out | apply below_alloc | apply pw_below_drewN | apply below_drew1) | exact HB.out)) hb); clear HB; have HB := n0_; clear n0_; (try clear hb); (try clear hb2); (try clear hk); (try clear hi)) | ((with_reducible refine gate_dst (N := 3) rfl ?_); refine box_event ?hg (N := 3) ?hd (cs := #[.int .i64 0, .int .i64 0, .int .i64 0, .int .i64 0, .int .i64 0, .int .i64 0, .int .i64 0, .int .i64 0]) (t := 41) ?hr ?_; (case hd => rfl); (case hg => rfl); (case hr => first | (go_simp; done) | (go_simp; rfl)); intro gb538 hg w8 hbox hb; have n0_ := Aside0.mk (below_step (by repeat (first | (with_reducible first | exact HB.out | apply below_alloc | apply pw_below_drewN | apply below_drew1) | exact HB.out)) hb); have n1_ := Aside0.mk (hbox); have n2_ := Aside0.mk ((by rw [hg]; exact (below_size (by repeat (first | (with_reducible first | exact HB.out | apply below_alloc | apply pw_below_drewN | apply below_drew1) | exact HB.out))) : w.heap.size ≤ gb538)); have n3_ := Aside0.mk ((by rw [hg]; exact (below_size (by repeat (first | (with_reducible first | exact HB.out | apply below_alloc | apply pw_below_drewN | apply below_drew1) | exact HB.out))) : w.heap.size ≤ gb538)); clear HB; have HB := n0_; have BK538 := n1_; have GW538 := n2_; have GE538 := n3_; clear n0_ n1_ n2_ n3_; clear hb hbox hg; have hcz9_0 : w8.cell? ⟨gb538, 0, none⟩ = some (.int .i64 0) := (blk_cell BK538.out 0).trans rfl; have hcz9_1 : w8.cell? ⟨gb538, 1, none⟩ = some (.int .i64 0) := (blk_cell BK538.out 1).trans rfl; have hcz9_2 : w8.cell? ⟨gb538, 2, none⟩ = some (.int .i64 0) := (blk_cell BK538.out 2).trans rfl; have hcz9_3 : w8.cell? ⟨gb538, 3, none⟩ = some (.int .i64 0) := (blk_cell BK538.out 3).trans rfl; have hcz9_4 : w8.cell? ⟨gb538, 4, none⟩ = some (.int .i64 0) := (blk_cell BK538.out 4).trans rfl; have hcz9_5 : w8.cell? ⟨gb538, 5, none⟩ = some (.int .i64 0) := (blk_cell BK538.out 5).trans rfl; have hcz9_6 : w8.cell? ⟨gb538, 6, none⟩ = some (.int .i64 0) := (blk_cell BK538.out 6).trans rfl; have hcz9_7 : w8.cell? ⟨gb538, 7, none⟩ = some (.int .i64 0) := (blk_cell BK538.out 7).trans rfl; have hfz9_0 := blk_frozen BK538.out 0; have hfz9_1 := blk_frozen BK538.out 1; have hfz9_2 := blk_frozen BK538.out 2; have hfz9_3 := blk_frozen BK538.out 3; have hfz9_4 := blk_frozen BK538.out 4; have hfz9_5 := blk_frozen BK538.out 5; have hfz9_6 := blk_frozen BK538.out 6; have hfz9_7 := blk_frozen BK538.out 7) | ((with_reducible refine gate_callee (f := 39) rfl ?_); refine goesL_ (some 25) rfl rfl Try.func39 (by kernel_rfl) rfl #[.agg #[.int .i64 t529, .int .i64 t530, .int .i64 t531, .int .i64 t532, .int .i64 t533, .int .i64 t534, .int .i64 t535, .int .i64 t536], .int .i64 t537] rfl (by (try simp only [List.map_toArray, List.map_cons, List.map_nil]); first | done | rfl | (simp only [List.length_drop, List.length_take]; rfl)) ?_; (with_reducible refine (spec_RecBack.calls k t529 t530 t531 t532 t533 t534 t535 t536 t537 t539 t540 t541 t542 t543 t544 t545 t546 t547 _ A4.out).mono ?_); rintro e w10 ⟨rfl, hb⟩; refine ⟨_, rfl, ?_⟩; have n0_ := Aside0.mk (blk_below (g := gb538) (o := .cells #[.int .i64 t529, .int .i64 t530, .int .i64 t531, .int .i64 t532, .int .i64 t533, .int .i64 t534, .int .i64 t535, .int .i64 t536] 41 (0, 0)) (by (with_reducible repeat (first | refine blk_drewN ?_ _ | refine blk_drew ?_ | refine blk_alloc ?_ _)); refine blk_put (cs := #[.int .i64 t529, .int .i64 t530, .int .i64 t531, .int .i64 t532, .int .i64 t533, .int .i64 t534, .int .i64 t535, .int .i64 0]) ?_ 7 _ rfl; (with_reducible repeat (first | refine blk_drewN ?_ _ | refine blk_drew ?_ | refine blk_alloc ?_ _)); refine blk_put (cs := #[.int .i64 t529, .int .i64 t530, .int .i64 t531, .int .i64 t532, .int .i64 t533, .int .i64 t534, .int .i64 0, .int .i64 0]) ?_ 6 _ rfl; (with_reducible repeat (first | refine blk_drewN ?_ _ | refine blk_drew ?_ | refine blk_alloc ?_ _)); refine blk_put (cs := #[.int .i64 t529, .int .i64 t530, .int .i64 t531, .int .i64 t532, .int .i64 t533, .int .i64 0, .int .i64 0, .int .i64 0]) ?_ 5 _ rfl; (with_reducible repeat (first | refine blk_drewN ?_ _ | refine blk_drew ?_ | refine blk_alloc ?_ _)); refine blk_put (cs := #[.int .i64 t529, .int .i64 t530, .int .i64 t531, .int .i64 t532, .int .i64 0, .int .i64 0, .int .i64 0, .int .i64 0]) ?_ 4 _ rfl; (with_reducible repeat (first | refine blk_drewN ?_ _ | refine blk_drew ?_ | refine blk_alloc ?_ _)); refine blk_put (cs := #[.int .i64 t529, .int .i64 t530, .int .i64 t531, .int .i64 0, .int .i64 0, .int .i64 0, .int .i64 0, .int .i64 0]) ?_ 3 _ rfl; (with_reducible repeat (first | refine blk_drewN ?_ _ | refine blk_drew ?_ | refine blk_alloc ?_ _)); refine blk_put (cs := #[.int .i64 t529, .int .i64 t530, .int .i64 0, .int .i64 0, .int .i64 0, .int .i64 0, .int .i64 0, .int .i64 0]) ?_ 2 _ rfl; (with_reducible repeat (first | refine blk_drewN ?_ _ | refine blk_drew ?_ | refine blk_alloc ?_ _)); refine blk_put (cs := #[.int .i64 t529, .int .i64 0, .int .i64 0, .int .i64 0, .int .i64 0, .int .i64 0, .int .i64 0, .int .i64 0]) ?_ 1 _ rfl; (with_reducible repeat (first | refine blk_drewN ?_ _ | refine blk_drew ?_ | refine blk_alloc ?_ _)); refine blk_put (cs := #[.int .i64 0, .int .i64 0, .int .i64 0, .int .i64 0, .int .i64 0, .int .i64 0, .int .i64 0, .int .i64 0]) ?_ 0 _ rfl; (with_reducible repeat (first | refine blk_drewN ?_ _ | refine blk_drew ?_ | refine blk_alloc ?_ _)); exact BK538.out) hb); have n1_ := Aside0.mk (below_step (by repeat (first | (with_reducible first | exact HB.out | apply below_alloc | apply pw_below_drewN | apply below_drew1 | refine below_set ?_ GE538.out) | exact HB.out)) hb); clear BK538; clear HB; have BK538 := n0_; have HB := n1_; clear n0_ n1_; (try clear hb); (try clear hb2); (try clear hk); (try clear hi)) | ((with_reducible refine gate_dst (N := 5) rfl ?_); refine box_event ?hg (N := 5) ?hd (cs := #[.int .i64 0, .int .i64 0, .int .i64 0, .int .i64 0, .int .i64 0, .int .i64 0, .int .i64 0, .int .i64 0]) (t := 41) ?hr ?_; (case hd => rfl); (case hg => rfl); (case hr => first | (go_simp; done) | (go_simp; rfl)); intro gb548 hg w11 hbox hb; have n0_ := Aside0.mk (blk_below (g := gb538) (o := .cells #[.int .i64 t529, .int .i64 t530, .int .i64 t531, .int .i64 t532, .int .i64 t533, .int .i64 t534, .int .i64 t535, .int .i64 t536] 41 (0, 0)) (by (with_reducible repeat (first | refine blk_drewN ?_ _ | refine blk_drew ?_ | refine blk_alloc ?_ _)); exact BK538.out) hb); have n1_ := Aside0.mk (below_step (by repeat (first | (with_reducible first | exact HB.out | apply below_alloc | apply pw_below_drewN | apply below_drew1 | refine below_set ?_ GE538.out) | exact HB.out)) hb); have n2_ := Aside0.mk (hbox); have n3_ := Aside0.mk ((by rw [hg]; exact (below_size (by repeat (first | (with_reducible first | exact HB.out | apply below_alloc | apply pw_below_drewN | apply below_drew1 | refine below_set ?_ GE538.out) | exact HB.out))) : w.heap.size ≤ gb548)); have n4_ := Aside0.mk ((by rw [hg]; exact (below_size (by repeat (first | (with_reducible first | exact HB.out | apply below_alloc | apply pw_below_drewN | apply below_drew1 | refine below_set ?_ GE538.out) | exact HB.out))) : w.heap.size ≤ gb548)); have n5_ := Aside0.mk ((by rw [hg]; exact Nat.ne_of_lt (blk_lt (g := gb538) (o := .cells #[.int .i64 t529, .int .i64 t530, .int .i64 t531, .int .i64 t532, .int .i64 t533, .int .i64 t534, .int .i64 t535, .int .i64 t536] 41 (0, 0)) (by (with_reducible repeat (first | refine blk_drewN ?_ _ | refine blk_drew ?_ | refine blk_alloc ?_ _)); exact BK538.out)) : gb538 ≠ gb548)); have n6_ := Aside0.mk ((by rw [hg]; exact Nat.ne_of_gt (blk_lt (g := gb538) (o := .cells #[.int .i64 t529, .int .i64 t530, .int .i64 t531, .int .i64 t532, .int .i64 t533, .int .i64 t534, .int .i64 t535, .int .i64 t536] 41 (0, 0)) (by (with_reducible repeat (first | refine blk_drewN ?_ _ | refine blk_drew ?_ | refine blk_alloc ?_ _)); exact BK538.out)) : gb548 ≠ gb538)); clear BK538; clear HB; have BK538 := n0_; have HB := n1_; have BK548 := n2_; have GW548 := n3_; have GE548 := n4_; have NB538_548 := n5_; have NB548_538 := n6_; clear n0_ n1_ n2_ n3_ n4_ n5_ n6_; clear hb hbox hg; have hnb12 := NB548_538.out; have hnc12 := NB538_548.out; have hcz13_0 : w11.cell? ⟨gb548, 0, none⟩ = some (.int .i64 0) := (blk_cell BK548.out 0).trans rfl; have hcz13_1 : w11.cell? ⟨gb548, 1, none⟩ = some (.int .i64 0) := (blk_cell BK548.out 1).trans rfl; have hcz13_2 : w11.cell? ⟨gb548, 2, none⟩ = some (.int .i64 0) := (blk_cell BK548.out 2).trans rfl; have hcz13_3 : w11.cell? ⟨gb548, 3, none⟩ = some (.int .i64 0) := (blk_cell BK548.out 3).trans rfl; have hcz13_4 : w11.cell? ⟨gb548, 4, none⟩ = some (.int .i64 0) := (blk_cell BK548.out 4).trans rfl; have hcz13_5 : w11.cell? ⟨gb548, 5, none⟩ = some (.int .i64 0) := (blk_cell BK548.out 5).trans rfl; have hcz13_6 : w11.cell? ⟨gb548, 6, none⟩ = some (.int .i64 0) := (blk_cell BK548.out 6).trans rfl; have hcz13_7 : w11.cell? ⟨gb548, 7, none⟩ = some (.int .i64 0) := (blk_cell BK548.out 7).trans rfl; have hfz13_0 := blk_frozen BK548.out 0; have hfz13_1 := blk_frozen BK548.out 1; have hfz13_2 := blk_frozen BK548.out 2; have hfz13_3 := blk_frozen BK548.out 3; have hfz13_4 := blk_frozen BK548.out 4; have hfz13_5 := blk_frozen BK548.out 5; have hfz13_6 := blk_frozen BK548.out 6; have hfz13_7 := blk_frozen BK548.out 7; have hcz14_0 : w11.cell? ⟨gb538, 0, none⟩ = some (.int .i64 t529) := (blk_cell BK538.out 0).trans rfl; have hcz14_1 : w11.cell? ⟨gb538, 1, none⟩ = some (.int .i64 t530) := (blk_cell BK538.out 1).trans rfl; have hcz14_2 : w11.cell? ⟨gb538, 2, none⟩ = some (.int .i64 t531) := (blk_cell BK538.out 2).trans rfl; have hcz14_3 : w11.cell? ⟨gb538, 3, none⟩ = some (.int .i64 t532) := (blk_cell BK538.out 3).trans rfl; have hcz14_4 : w11.cell? ⟨gb538, 4, none⟩ = some (.int .i64 t533) := (blk_cell BK538.out 4).trans rfl; have hcz14_5 : w11.cell? ⟨gb538, 5, none⟩ = some (.int .i64 t534) := (blk_cell BK538.out 5).trans rfl; have hcz14_6 : w11.cell? ⟨gb538, 6, none⟩ = some (.int .i64 t535) := (blk_cell BK538.out 6).trans rfl; have hcz14_7 : w11.cell? ⟨gb538, 7, none⟩ = some (.int .i64 t536) := (blk_cell BK538.out 7).trans rfl; have hfz14_0 := blk_frozen BK538.out 0; have hfz14_1 := blk_frozen BK538.out 1; have hfz14_2 := blk_frozen BK538.out 2; have hfz14_3 := blk_frozen BK538.out 3; have hfz14_4 := blk_frozen BK538.out 4; have hfz14_5 := blk_frozen BK538.out 5; have hfz14_6 := blk_frozen BK538.out 6; have hfz14_7 := blk_frozen BK538.out 7) | ((with_reducible refine gate_callee (f := 40) rfl ?_); refine goesL_ (some 31) rfl rfl Try.func40 (by kernel_rfl) rfl #[.agg #[.int .i64 t529, .int .i64 t530, .int .i64 t531, .int .i64 t532, .int .i64 t533, .int .i64 t534, .int .i64 t535, .int .i64 t536], .int .i64 t537] rfl (by (try simp only [List.map_toArray, List.map_cons, List.map_nil]); first | done | rfl | (simp only [List.length_drop, List.length_take]; rfl)) ?_; (with_reducible refine (impl_RecBack.calls k t529 t530 t531 t532 t533 t534 t535 t536 t537 t549 t550 t551 t552 t553 t554 t555 t556 t557 _ A5.out).mono ?_); rintro e w15 ⟨rfl, hb⟩; refine ⟨_, rfl, ?_⟩; have n0_ := Aside0.mk (blk_below (g := gb538) (o := .cells #[.int .i64 t529, .int .i64 t530, .int .i64 t531, .int .i64 t532, .int .i64 t533, .int .i64 t534, .int .i64 t535, .int .i64 t536] 41 (0, 0)) (by (with_reducible repeat (first | refine blk_drewN ?_ _ | refine blk_drew ?_ | refine blk_alloc ?_ _)); refine blk_far ?_ NB538_548.out _; (with_reducible repeat (first | refine blk_drewN ?_ _ | refine blk_drew ?_ | refine blk_alloc ?_ _)); refine blk_far ?_ NB538_548.out _; (with_reducible repeat (first | refine blk_drewN ?_ _ | refine blk_drew ?_ | refine blk_alloc ?_ _)); refine blk_far ?_ NB538_548.out _; (with_reducible repeat (first | refine blk_drewN ?_ _ | refine blk_drew ?_ | refine blk_alloc ?_ _)); refine blk_far ?_ NB538_548.out _; (with_reducible repeat (first | refine blk_drewN ?_ _ | refine blk_drew ?_ | refine blk_alloc ?_ _)); refine blk_far ?_ NB538_548.out _; (with_reducible repeat (first | refine blk_drewN ?_ _ | refine blk_drew ?_ | refine blk_alloc ?_ _)); refine blk_far ?_ NB538_548.out _; (with_reducible repeat (first | refine blk_drewN ?_ _ | refine blk_drew ?_ | refine blk_alloc ?_ _)); refine blk_far ?_ NB538_548.out _; (with_reducible repeat (first | refine blk_drewN ?_ _ | refine blk_drew ?_ | refine blk_alloc ?_ _)); refine blk_far ?_ NB538_548.out _; (with_reducible repeat (first | refine blk_drewN ?_ _ | refine blk_drew ?_ | refine blk_alloc ?_ _)); exact BK538.out) hb); have n1_ := Aside0.mk (blk_below (g := gb548) (o := .cells #[.int .i64 t539, .int .i64 t540, .int .i64 t541, .int .i64 t542, .int .i64 t543, .int .i64 t544, .int .i64 t545, .int .i64 t546] 41 (0, 0)) (by (with_reducible repeat (first | refine blk_drewN ?_ _ | refine blk_drew ?_ | refine blk_alloc ?_ _)); refine blk_put (cs := #[.int .i64 t539, .int .i64 t540, .int .i64 t541, .int .i64 t542, .int .i64 t543, .int .i64 t544, .int .i64 t545, .int .i64 0]) ?_ 7 _ rfl; (with_reducible repeat (first | refine blk_drewN ?_ _ | refine blk_drew ?_ | refine blk_alloc ?_ _)); refine blk_put (cs := #[.int .i64 t539, .int .i64 t540, .int .i64 t541, .int .i64 t542, .int .i64 t543, .int .i64 t544, .int .i64 0, .int .i64 0]) ?_ 6 _ rfl; (with_reducible repeat (first | refine blk_drewN ?_ _ | refine blk_drew ?_ | refine blk_alloc ?_ _)); refine blk_put (cs := #[.int .i64 t539, .int .i64 t540, .int .i64 t541, .int .i64 t542, .int .i64 t543, .int .i64 0, .int .i64 0, .int .i64 0]) ?_ 5 _ rfl; (with_reducible repeat (first | refine blk_drewN ?_ _ | refine blk_drew ?_ | refine blk_alloc ?_ _)); refine blk_put (cs := #[.int .i64 t539, .int .i64 t540, .int .i64 t541, .int .i64 t542, .int .i64 0, .int .i64 0, .int .i64 0, .int .i64 0]) ?_ 4 _ rfl; (with_reducible repeat (first | refine blk_drewN ?_ _ | refine blk_drew ?_ | refine blk_alloc ?_ _)); refine blk_put (cs := #[.int .i64 t539, .int .i64 t540, .int .i64 t541, .int .i64 0, .int .i64 0, .int .i64 0, .int .i64 0, .int .i64 0]) ?_ 3 _ rfl; (with_reducible repeat (first | refine blk_drewN ?_ _ | refine blk_drew ?_ | refine blk_alloc ?_ _)); refine blk_put (cs := #[.int .i64 t539, .int .i64 t540, .int .i64 0, .int .i64 0, .int .i64 0, .int .i64 0, .int .i64 0, .int .i64 0]) ?_ 2 _ rfl; (with_reducible repeat (first | refine blk_drewN ?_ _ | refine blk_drew ?_ | refine blk_alloc ?_ _)); refine blk_put (cs := #[.int .i64 t539, .int .i64 0, .int .i64 0, .int .i64 0, .int .i64 0, .int .i64 0, .int .i64 0, .int .i64 0]) ?_ 1 _ rfl; (with_reducible repeat (first | refine blk_drewN ?_ _ | refine blk_drew ?_ | refine blk_alloc ?_ _)); refine blk_put (cs := #[.int .i64 0, .int .i64 0, .int .i64 0, .int .i64 0, .int .i64 0, .int .i64 0, .int .i64 0, .int .i64 0]) ?_ 0 _ rfl; (with_reducible repeat (first | refine blk_drewN ?_ _ | refine blk_drew ?_ | refine blk_alloc ?_ _)); exact BK548.out) hb); have n2_ := Aside0.mk (below_step (by repeat (first | (with_reducible first | exact HB.out | apply below_alloc | apply pw_below_drewN | apply below_drew1 | refine below_set ?_ GE538.out | refine below_set ?_ GE548.out) | exact HB.out)) hb); clear BK538; clear BK548; clear HB; have BK538 := n0_; have BK548 := n1_; have HB := n2_; clear n0_ n1_ n2_; (try clear hb); (try clear hb2); (try clear hk); (try clear hi)) | ((with_reducible refine gate_dst (N := 7) rfl ?_); refine box_event ?hg (N := 7) ?hd (cs := #[.int .i64 0, .int .i64 0, .int .i64 0, .int .i64 0, .int .i64 0, .int .i64 0, .int .i64 0, .int .i64 0]) (t := 41) ?hr ?_; (case hd => rfl); (case hg => rfl); (case hr => first | (go_simp; done) | (go_simp; rfl)); intro gb558 hg w16 hbox hb; have n0_ := Aside0.mk (blk_below (g := gb538) (o := .cells #[.int .i64 t529, .int .i64 t530, .int .i64 t531, .int .i64 t532, .int .i64 t533, .int .i64 t534, .int .i64 t535, .int .i64 t536] 41 (0, 0)) (by (with_reducible repeat (first | refine blk_drewN ?_ _ | refine blk_drew ?_ | refine blk_alloc ?_ _)); exact BK538.out) hb); have n1_ := Aside0.mk (blk_below (g := gb548) (o := .cells #[.int .i64 t539, .int .i64 t540, .int .i64 t541, .int .i64 t542, .int .i64 t543, .int .i64 t544, .int .i64 t545, .int .i64 t546] 41 (0, 0)) (by (with_reducible repeat (first | refine blk_drewN ?_ _ | refine blk_drew ?_ | refine blk_alloc ?_ _)); exact BK548.out) hb); have n2_ := Aside0.mk (below_step (by repeat (first | (with_reducible first | exact HB.out | apply below_alloc | apply pw_below_drewN | apply below_drew1 | refine below_set ?_ GE538.out | refine below_set ?_ GE548.out) | exact HB.out)) hb); have n3_ := Aside0.mk (hbox); have n4_ := Aside0.mk ((by rw [hg]; exact (below_size (by repeat (first | (with_reducible first | exact HB.out | apply below_alloc | apply pw_below_drewN | apply below_drew1 | refine below_set ?_ GE538.out | refine below_set ?_ GE548.out) | exact HB.out))) : w.heap.size ≤ gb558)); have n5_ := Aside0.mk ((by rw [hg]; exact (below_size (by repeat (first | (with_reducible first | exact HB.out | apply below_alloc | apply pw_below_drewN | apply below_drew1 | refine below_set ?_ GE538.out | refine below_set ?_ GE548.out) | exact HB.out))) : w.heap.size ≤ gb558)); have n6_ := Aside0.mk ((by rw [hg]; exact Nat.ne_of_lt (blk_lt (g := gb538) (o := .cells #[.int .i64 t529, .int .i64 t530, .int .i64 t531, .int .i64 t532, .int .i64 t533, .int .i64 t534, .int .i64 t535, .int .i64 t536] 41 (0, 0)) (by (with_reducible repeat (first | refine blk_drewN ?_ _ | refine blk_drew ?_ | refine blk_alloc ?_ _)); exact BK538.out)) : gb538 ≠ gb558)); have n7_ := Aside0.mk ((by rw [hg]; exact Nat.ne_of_gt (blk_lt (g := gb538) (o := .cells #[.int .i64 t529, .int .i64 t530, .int .i64 t531, .int .i64 t532, .int .i64 t533, .int .i64 t534, .int .i64 t535, .int .i64 t536] 41 (0, 0)) (by (with_reducible repeat (first | refine blk_drewN ?_ _ | refine blk_drew ?_ | refine blk_alloc ?_ _)); exact BK538.out)) : gb558 ≠ gb538)); have n8_ := Aside0.mk ((by rw [hg]; exact Nat.ne_of_lt (blk_lt (g := gb548) (o := .cells #[.int .i64 t539, .int .i64 t540, .int .i64 t541, .int .i64 t542, .int .i64 t543, .int .i64 t544, .int .i64 t545, .int .i64 t546] 41 (0, 0)) (by (with_reducible repeat (first | refine blk_drewN ?_ _ | refine blk_drew ?_ | refine blk_alloc ?_ _)); exact BK548.out)) : gb548 ≠ gb558)); have n9_ := Aside0.mk ((by rw [hg]; exact Nat.ne_of_gt (blk_lt (g := gb548) (o := .cells #[.int .i64 t539, .int .i64 t540, .int .i64 t541, .int .i64 t542, .int .i64 t543, .int .i64 t544, .int .i64 t545, .int .i64 t546] 41 (0, 0)) (by (with_reducible repeat (first | refine blk_drewN ?_ _ | refine blk_drew ?_ | refine blk_alloc ?_ _)); exact BK548.out)) : gb558 ≠ gb548)); clear BK538; clear BK548; clear HB; have BK538 := n0_; have BK548 := n1_; have HB := n2_; have BK558 := n3_; have GW558 := n4_; have GE558 := n5_; have NB538_558 := n6_; have NB558_538 := n7_; have NB548_558 := n8_; have NB558_548 := n9_; clear n0_ n1_ n2_ n3_ n4_ n5_ n6_ n7_ n8_ n9_; clear hb hbox hg; have hnb17 := NB558_538.out; have hnc17 := NB538_558.out; have hnb18 := NB558_548.out; have hnc18 := NB548_558.out; have hcz19_0 : w16.cell? ⟨gb558, 0, none⟩ = some (.int .i64 0) := (blk_cell BK558.out 0).trans rfl; have hcz19_1 : w16.cell? ⟨gb558, 1, none⟩ = some (.int .i64 0) := (blk_cell BK558.out 1).trans rfl; have hcz19_2 : w16.cell? ⟨gb558, 2, none⟩ = some (.int .i64 0) := (blk_cell BK558.out 2).trans rfl; have hcz19_3 : w16.cell? ⟨gb558, 3, none⟩ = some (.int .i64 0) := (blk_cell BK558.out 3).trans rfl; have hcz19_4 : w16.cell? ⟨gb558, 4, none⟩ = some (.int .i64 0) := (blk_cell BK558.out 4).trans rfl; have hcz19_5 : w16.cell? ⟨gb558, 5, none⟩ = some (.int .i64 0) := (blk_cell BK558.out 5).trans rfl; have hcz19_6 : w16.cell? ⟨gb558, 6, none⟩ = some (.int .i64 0) := (blk_cell BK558.out 6).trans rfl; have hcz19_7 : w16.cell? ⟨gb558, 7, none⟩ = some (.int .i64 0) := (blk_cell BK558.out 7).trans rfl; have hfz19_0 := blk_frozen BK558.out 0; have hfz19_1 := blk_frozen BK558.out 1; have hfz19_2 := blk_frozen BK558.out 2; have hfz19_3 := blk_frozen BK558.out 3; have hfz19_4 := blk_frozen BK558.out 4; have hfz19_5 := blk_frozen BK558.out 5; have hfz19_6 := blk_frozen BK558.out 6; have hfz19_7 := blk_frozen BK558.out 7))
    (try simp only [Act.put, List.setIfInBounds_toArray, List.set_cons_zero, List.set_cons_succ])
    go_cut [45] (fun v45 wc => ∃ (kq : Nat) (x45_5 : Bool), v45 = .bool x45_5 ∧ Aside0 (laws_FnRecUndo.j0 kq t537 t547 t557 x45_5 t529 t530 t531 t532 t533 t534 t535 t536 t539 t540 t541 t542 t543 t544 t545 t546 t549 t550 t551 t552 t553 t554 t555 t556 = some r) ∧ Aside0 (kq ≤ k) ∧ Aside0 (wc.heap[gb538]? = some (.cells #[.int .i64 t529, .int .i64 t530, .int .i64 t531, .int .i64 t532, .int .i64 t533, .int .i64 t534, .int .i64 t535, .int .i64 t536] 41 (0, 0))) ∧ Aside0 (wc.heap[gb548]? = some (.cells #[.int .i64 t539, .int .i64 t540, .int .i64 t541, .int .i64 t542, .int .i64 t543, .int .i64 t544, .int .i64 t545, .int .i64 t546] 41 (0, 0))) ∧ Aside0 (wc.heap[gb558]? = some (.cells #[.int .i64 t549, .int .i64 t550, .int .i64 t551, .int .i64 t552, .int .i64 t553, .int .i64 t554, .int .i64 t555, .int .i64 t556] 41 (0, 0))) ∧ Aside0 (Below w.heap.size w wc))
    case first =>
      have H := HC6.out
      clear HC6
      by_cases c20 : (t557 != t547) = true
      · rw [if_pos c20] at H
        have c20b0 : (t557 != t547) = true := c20
        (try (have c20b1 : decide (t557 = t547) = false := by simpa using c20))
        (try (have c20b2 : (t557 == t547) = false := by simpa using c20))
        (try (have c20b3 : ¬ (t557 = t547) := by simpa using c20))
        clear c20
        (first | rw [c20b0] | (simp only [i64_w, i32_w]; rw [c20b0]) | skip)
        have H' := Aside0.mk H
        clear H
        go_wp2
        go_meet
        case rel => exact ⟨_, (true), (by first | rfl | (simp; done) | (simp [*]; done)), H', ⟨by first | omega | exact Nat.le_refl _⟩, ⟨by (with_reducible repeat (first | refine blk_drewN ?_ _ | refine blk_drew ?_ | refine blk_alloc ?_ _)); refine blk_far ?_ NB538_558.out _; (with_reducible repeat (first | refine blk_drewN ?_ _ | refine blk_drew ?_ | refine blk_alloc ?_ _)); refine blk_far ?_ NB538_558.out _; (with_reducible repeat (first | refine blk_drewN ?_ _ | refine blk_drew ?_ | refine blk_alloc ?_ _)); refine blk_far ?_ NB538_558.out _; (with_reducible repeat (first | refine blk_drewN ?_ _ | refine blk_drew ?_ | refine blk_alloc ?_ _)); refine blk_far ?_ NB538_558.out _; (with_reducible repeat (first | refine blk_drewN ?_ _ | refine blk_drew ?_ | refine blk_alloc ?_ _)); refine blk_far ?_ NB538_558.out _; (with_reducible repeat (first | refine blk_drewN ?_ _ | refine blk_drew ?_ | refine blk_alloc ?_ _)); refine blk_far ?_ NB538_558.out _; (with_reducible repeat (first | refine blk_drewN ?_ _ | refine blk_drew ?_ | refine blk_alloc ?_ _)); refine blk_far ?_ NB538_558.out _; (with_reducible repeat (first | refine blk_drewN ?_ _ | refine blk_drew ?_ | refine blk_alloc ?_ _)); refine blk_far ?_ NB538_558.out _; (with_reducible repeat (first | refine blk_drewN ?_ _ | refine blk_drew ?_ | refine blk_alloc ?_ _)); exact BK538.out⟩, ⟨by (with_reducible repeat (first | refine blk_drewN ?_ _ | refine blk_drew ?_ | refine blk_alloc ?_ _)); refine blk_far ?_ NB548_558.out _; (with_reducible repeat (first | refine blk_drewN ?_ _ | refine blk_drew ?_ | refine blk_alloc ?_ _)); refine blk_far ?_ NB548_558.out _; (with_reducible repeat (first | refine blk_drewN ?_ _ | refine blk_drew ?_ | refine blk_alloc ?_ _)); refine blk_far ?_ NB548_558.out _; (with_reducible repeat (first | refine blk_drewN ?_ _ | refine blk_drew ?_ | refine blk_alloc ?_ _)); refine blk_far ?_ NB548_558.out _; (with_reducible repeat (first | refine blk_drewN ?_ _ | refine blk_drew ?_ | refine blk_alloc ?_ _)); refine blk_far ?_ NB548_558.out _; (with_reducible repeat (first | refine blk_drewN ?_ _ | refine blk_drew ?_ | refine blk_alloc ?_ _)); refine blk_far ?_ NB548_558.out _; (with_reducible repeat (first | refine blk_drewN ?_ _ | refine blk_drew ?_ | refine blk_alloc ?_ _)); refine blk_far ?_ NB548_558.out _; (with_reducible repeat (first | refine blk_drewN ?_ _ | refine blk_drew ?_ | refine blk_alloc ?_ _)); refine blk_far ?_ NB548_558.out _; (with_reducible repeat (first | refine blk_drewN ?_ _ | refine blk_drew ?_ | refine blk_alloc ?_ _)); exact BK548.out⟩, ⟨by (with_reducible repeat (first | refine blk_drewN ?_ _ | refine blk_drew ?_ | refine blk_alloc ?_ _)); refine blk_put (cs := #[.int .i64 t549, .int .i64 t550, .int .i64 t551, .int .i64 t552, .int .i64 t553, .int .i64 t554, .int .i64 t555, .int .i64 0]) ?_ 7 _ rfl; (with_reducible repeat (first | refine blk_drewN ?_ _ | refine blk_drew ?_ | refine blk_alloc ?_ _)); refine blk_put (cs := #[.int .i64 t549, .int .i64 t550, .int .i64 t551, .int .i64 t552, .int .i64 t553, .int .i64 t554, .int .i64 0, .int .i64 0]) ?_ 6 _ rfl; (with_reducible repeat (first | refine blk_drewN ?_ _ | refine blk_drew ?_ | refine blk_alloc ?_ _)); refine blk_put (cs := #[.int .i64 t549, .int .i64 t550, .int .i64 t551, .int .i64 t552, .int .i64 t553, .int .i64 0, .int .i64 0, .int .i64 0]) ?_ 5 _ rfl; (with_reducible repeat (first | refine blk_drewN ?_ _ | refine blk_drew ?_ | refine blk_alloc ?_ _)); refine blk_put (cs := #[.int .i64 t549, .int .i64 t550, .int .i64 t551, .int .i64 t552, .int .i64 0, .int .i64 0, .int .i64 0, .int .i64 0]) ?_ 4 _ rfl; (with_reducible repeat (first | refine blk_drewN ?_ _ | refine blk_drew ?_ | refine blk_alloc ?_ _)); refine blk_put (cs := #[.int .i64 t549, .int .i64 t550, .int .i64 t551, .int .i64 0, .int .i64 0, .int .i64 0, .int .i64 0, .int .i64 0]) ?_ 3 _ rfl; (with_reducible repeat (first | refine blk_drewN ?_ _ | refine blk_drew ?_ | refine blk_alloc ?_ _)); refine blk_put (cs := #[.int .i64 t549, .int .i64 t550, .int .i64 0, .int .i64 0, .int .i64 0, .int .i64 0, .int .i64 0, .int .i64 0]) ?_ 2 _ rfl; (with_reducible repeat (first | refine blk_drewN ?_ _ | refine blk_drew ?_ | refine blk_alloc ?_ _)); refine blk_put (cs := #[.int .i64 t549, .int .i64 0, .int .i64 0, .int .i64 0, .int .i64 0, .int .i64 0, .int .i64 0, .int .i64 0]) ?_ 1 _ rfl; (with_reducible repeat (first | refine blk_drewN ?_ _ | refine blk_drew ?_ | refine blk_alloc ?_ _)); refine blk_put (cs := #[.int .i64 0, .int .i64 0, .int .i64 0, .int .i64 0, .int .i64 0, .int .i64 0, .int .i64 0, .int .i64 0]) ?_ 0 _ rfl; (with_reducible repeat (first | refine blk_drewN ?_ _ | refine blk_drew ?_ | refine blk_alloc ?_ _)); exact BK558.out⟩, ⟨by repeat (first | (with_reducible first | exact HB.out | apply below_alloc | apply pw_below_drewN | apply below_drew1 | refine below_set ?_ GE538.out | refine below_set ?_ GE548.out | refine below_set ?_ GE558.out) | exact HB.out)⟩⟩
      · rw [if_neg c20] at H
        have c20b0 : (t557 != t547) = false := by simpa using c20
        (try (have c20b1 : decide (t557 = t547) = true := by simpa using c20))
        (try (have c20b2 : (t557 == t547) = true := by simpa using c20))
        clear c20
        (first | rw [c20b0] | (simp only [i64_w, i32_w]; rw [c20b0]) | skip)
        by_cases c21 : (!(t549 == t539) || (!(t550 == t540) || (!(t551 == t541) || (!(t552 == t542) || (!(t553 == t543) || (!(t554 == t544) || (!(t555 == t545) || (!(t556 == t546))))))))) = true
        · rw [if_pos c21] at H
          have c21b0 : (!(t549 == t539) || (!(t550 == t540) || (!(t551 == t541) || (!(t552 == t542) || (!(t553 == t543) || (!(t554 == t544) || (!(t555 == t545) || (!(t556 == t546))))))))) = true := c21
          clear c21
          have H' := Aside0.mk H
          clear H
          have hnb22 := NB558_538.out
          have hnc22 := NB538_558.out
          have hnb23 := NB558_548.out
          have hnc23 := NB548_558.out
          have hcz24_0 : w16.cell? ⟨gb558, 0, none⟩ = some (.int .i64 0) := (blk_cell BK558.out 0).trans rfl
          have hcz24_1 : w16.cell? ⟨gb558, 1, none⟩ = some (.int .i64 0) := (blk_cell BK558.out 1).trans rfl
          have hcz24_2 : w16.cell? ⟨gb558, 2, none⟩ = some (.int .i64 0) := (blk_cell BK558.out 2).trans rfl
          have hcz24_3 : w16.cell? ⟨gb558, 3, none⟩ = some (.int .i64 0) := (blk_cell BK558.out 3).trans rfl
          have hcz24_4 : w16.cell? ⟨gb558, 4, none⟩ = some (.int .i64 0) := (blk_cell BK558.out 4).trans rfl
          have hcz24_5 : w16.cell? ⟨gb558, 5, none⟩ = some (.int .i64 0) := (blk_cell BK558.out 5).trans rfl
          have hcz24_6 : w16.cell? ⟨gb558, 6, none⟩ = some (.int .i64 0) := (blk_cell BK558.out 6).trans rfl
          have hcz24_7 : w16.cell? ⟨gb558, 7, none⟩ = some (.int .i64 0) := (blk_cell BK558.out 7).trans rfl
          have hfz24_0 := blk_frozen BK558.out 0
          have hfz24_1 := blk_frozen BK558.out 1
          have hfz24_2 := blk_frozen BK558.out 2
          have hfz24_3 := blk_frozen BK558.out 3
          have hfz24_4 := blk_frozen BK558.out 4
          have hfz24_5 := blk_frozen BK558.out 5
          have hfz24_6 := blk_frozen BK558.out 6
          have hfz24_7 := blk_frozen BK558.out 7
          have hnb25 := NB548_538.out
          have hnc25 := NB538_548.out
          have hcz26_0 : w16.cell? ⟨gb548, 0, none⟩ = some (.int .i64 t539) := (blk_cell BK548.out 0).trans rfl
          have hcz26_1 : w16.cell? ⟨gb548, 1, none⟩ = some (.int .i64 t540) := (blk_cell BK548.out 1).trans rfl
          have hcz26_2 : w16.cell? ⟨gb548, 2, none⟩ = some (.int .i64 t541) := (blk_cell BK548.out 2).trans rfl
          have hcz26_3 : w16.cell? ⟨gb548, 3, none⟩ = some (.int .i64 t542) := (blk_cell BK548.out 3).trans rfl
          have hcz26_4 : w16.cell? ⟨gb548, 4, none⟩ = some (.int .i64 t543) := (blk_cell BK548.out 4).trans rfl
          have hcz26_5 : w16.cell? ⟨gb548, 5, none⟩ = some (.int .i64 t544) := (blk_cell BK548.out 5).trans rfl
          have hcz26_6 : w16.cell? ⟨gb548, 6, none⟩ = some (.int .i64 t545) := (blk_cell BK548.out 6).trans rfl
          have hcz26_7 : w16.cell? ⟨gb548, 7, none⟩ = some (.int .i64 t546) := (blk_cell BK548.out 7).trans rfl
          have hfz26_0 := blk_frozen BK548.out 0
          have hfz26_1 := blk_frozen BK548.out 1
          have hfz26_2 := blk_frozen BK548.out 2
          have hfz26_3 := blk_frozen BK548.out 3
          have hfz26_4 := blk_frozen BK548.out 4
          have hfz26_5 := blk_frozen BK548.out 5
          have hfz26_6 := blk_frozen BK548.out 6
          have hfz26_7 := blk_frozen BK548.out 7
          go_wp2
          go_meet
          case rel => exact ⟨_, (true), (by first | rfl | (simp; done) | (simp [*]; done)), H', ⟨by first | omega | exact Nat.le_refl _⟩, ⟨by (with_reducible repeat (first | refine blk_drewN ?_ _ | refine blk_drew ?_ | refine blk_alloc ?_ _)); refine blk_far ?_ NB538_558.out _; (with_reducible repeat (first | refine blk_drewN ?_ _ | refine blk_drew ?_ | refine blk_alloc ?_ _)); refine blk_far ?_ NB538_558.out _; (with_reducible repeat (first | refine blk_drewN ?_ _ | refine blk_drew ?_ | refine blk_alloc ?_ _)); refine blk_far ?_ NB538_558.out _; (with_reducible repeat (first | refine blk_drewN ?_ _ | refine blk_drew ?_ | refine blk_alloc ?_ _)); refine blk_far ?_ NB538_558.out _; (with_reducible repeat (first | refine blk_drewN ?_ _ | refine blk_drew ?_ | refine blk_alloc ?_ _)); refine blk_far ?_ NB538_558.out _; (with_reducible repeat (first | refine blk_drewN ?_ _ | refine blk_drew ?_ | refine blk_alloc ?_ _)); refine blk_far ?_ NB538_558.out _; (with_reducible repeat (first | refine blk_drewN ?_ _ | refine blk_drew ?_ | refine blk_alloc ?_ _)); refine blk_far ?_ NB538_558.out _; (with_reducible repeat (first | refine blk_drewN ?_ _ | refine blk_drew ?_ | refine blk_alloc ?_ _)); refine blk_far ?_ NB538_558.out _; (with_reducible repeat (first | refine blk_drewN ?_ _ | refine blk_drew ?_ | refine blk_alloc ?_ _)); exact BK538.out⟩, ⟨by (with_reducible repeat (first | refine blk_drewN ?_ _ | refine blk_drew ?_ | refine blk_alloc ?_ _)); refine blk_far ?_ NB548_558.out _; (with_reducible repeat (first | refine blk_drewN ?_ _ | refine blk_drew ?_ | refine blk_alloc ?_ _)); refine blk_far ?_ NB548_558.out _; (with_reducible repeat (first | refine blk_drewN ?_ _ | refine blk_drew ?_ | refine blk_alloc ?_ _)); refine blk_far ?_ NB548_558.out _; (with_reducible repeat (first | refine blk_drewN ?_ _ | refine blk_drew ?_ | refine blk_alloc ?_ _)); refine blk_far ?_ NB548_558.out _; (with_reducible repeat (first | refine blk_drewN ?_ _ | refine blk_drew ?_ | refine blk_alloc ?_ _)); refine blk_far ?_ NB548_558.out _; (with_reducible repeat (first | refine blk_drewN ?_ _ | refine blk_drew ?_ | refine blk_alloc ?_ _)); refine blk_far ?_ NB548_558.out _; (with_reducible repeat (first | refine blk_drewN ?_ _ | refine blk_drew ?_ | refine blk_alloc ?_ _)); refine blk_far ?_ NB548_558.out _; (with_reducible repeat (first | refine blk_drewN ?_ _ | refine blk_drew ?_ | refine blk_alloc ?_ _)); refine blk_far ?_ NB548_558.out _; (with_reducible repeat (first | refine blk_drewN ?_ _ | refine blk_drew ?_ | refine blk_alloc ?_ _)); exact BK548.out⟩, ⟨by (with_reducible repeat (first | refine blk_drewN ?_ _ | refine blk_drew ?_ | refine blk_alloc ?_ _)); refine blk_put (cs := #[.int .i64 t549, .int .i64 t550, .int .i64 t551, .int .i64 t552, .int .i64 t553, .int .i64 t554, .int .i64 t555, .int .i64 0]) ?_ 7 _ rfl; (with_reducible repeat (first | refine blk_drewN ?_ _ | refine blk_drew ?_ | refine blk_alloc ?_ _)); refine blk_put (cs := #[.int .i64 t549, .int .i64 t550, .int .i64 t551, .int .i64 t552, .int .i64 t553, .int .i64 t554, .int .i64 0, .int .i64 0]) ?_ 6 _ rfl; (with_reducible repeat (first | refine blk_drewN ?_ _ | refine blk_drew ?_ | refine blk_alloc ?_ _)); refine blk_put (cs := #[.int .i64 t549, .int .i64 t550, .int .i64 t551, .int .i64 t552, .int .i64 t553, .int .i64 0, .int .i64 0, .int .i64 0]) ?_ 5 _ rfl; (with_reducible repeat (first | refine blk_drewN ?_ _ | refine blk_drew ?_ | refine blk_alloc ?_ _)); refine blk_put (cs := #[.int .i64 t549, .int .i64 t550, .int .i64 t551, .int .i64 t552, .int .i64 0, .int .i64 0, .int .i64 0, .int .i64 0]) ?_ 4 _ rfl; (with_reducible repeat (first | refine blk_drewN ?_ _ | refine blk_drew ?_ | refine blk_alloc ?_ _)); refine blk_put (cs := #[.int .i64 t549, .int .i64 t550, .int .i64 t551, .int .i64 0, .int .i64 0, .int .i64 0, .int .i64 0, .int .i64 0]) ?_ 3 _ rfl; (with_reducible repeat (first | refine blk_drewN ?_ _ | refine blk_drew ?_ | refine blk_alloc ?_ _)); refine blk_put (cs := #[.int .i64 t549, .int .i64 t550, .int .i64 0, .int .i64 0, .int .i64 0, .int .i64 0, .int .i64 0, .int .i64 0]) ?_ 2 _ rfl; (with_reducible repeat (first | refine blk_drewN ?_ _ | refine blk_drew ?_ | refine blk_alloc ?_ _)); refine blk_put (cs := #[.int .i64 t549, .int .i64 0, .int .i64 0, .int .i64 0, .int .i64 0, .int .i64 0, .int .i64 0, .int .i64 0]) ?_ 1 _ rfl; (with_reducible repeat (first | refine blk_drewN ?_ _ | refine blk_drew ?_ | refine blk_alloc ?_ _)); refine blk_put (cs := #[.int .i64 0, .int .i64 0, .int .i64 0, .int .i64 0, .int .i64 0, .int .i64 0, .int .i64 0, .int .i64 0]) ?_ 0 _ rfl; (with_reducible repeat (first | refine blk_drewN ?_ _ | refine blk_drew ?_ | refine blk_alloc ?_ _)); exact BK558.out⟩, ⟨by repeat (first | (with_reducible first | exact HB.out | apply below_alloc | apply pw_below_drewN | apply below_drew1 | refine below_set ?_ GE538.out | refine below_set ?_ GE548.out | refine below_set ?_ GE558.out) | exact HB.out)⟩⟩
        · rw [if_neg c21] at H
          have c21b0 : (!(t549 == t539) || (!(t550 == t540) || (!(t551 == t541) || (!(t552 == t542) || (!(t553 == t543) || (!(t554 == t544) || (!(t555 == t545) || (!(t556 == t546))))))))) = false := by simpa using c21
          clear c21
          have H' := Aside0.mk H
          clear H
          have hnb27 := NB558_538.out
          have hnc27 := NB538_558.out
          have hnb28 := NB558_548.out
          have hnc28 := NB548_558.out
          have hcz29_0 : w16.cell? ⟨gb558, 0, none⟩ = some (.int .i64 0) := (blk_cell BK558.out 0).trans rfl
          have hcz29_1 : w16.cell? ⟨gb558, 1, none⟩ = some (.int .i64 0) := (blk_cell BK558.out 1).trans rfl
          have hcz29_2 : w16.cell? ⟨gb558, 2, none⟩ = some (.int .i64 0) := (blk_cell BK558.out 2).trans rfl
          have hcz29_3 : w16.cell? ⟨gb558, 3, none⟩ = some (.int .i64 0) := (blk_cell BK558.out 3).trans rfl
          have hcz29_4 : w16.cell? ⟨gb558, 4, none⟩ = some (.int .i64 0) := (blk_cell BK558.out 4).trans rfl
          have hcz29_5 : w16.cell? ⟨gb558, 5, none⟩ = some (.int .i64 0) := (blk_cell BK558.out 5).trans rfl
          have hcz29_6 : w16.cell? ⟨gb558, 6, none⟩ = some (.int .i64 0) := (blk_cell BK558.out 6).trans rfl
          have hcz29_7 : w16.cell? ⟨gb558, 7, none⟩ = some (.int .i64 0) := (blk_cell BK558.out 7).trans rfl
          have hfz29_0 := blk_frozen BK558.out 0
          have hfz29_1 := blk_frozen BK558.out 1
          have hfz29_2 := blk_frozen BK558.out 2
          have hfz29_3 := blk_frozen BK558.out 3
          have hfz29_4 := blk_frozen BK558.out 4
          have hfz29_5 := blk_frozen BK558.out 5
          have hfz29_6 := blk_frozen BK558.out 6
          have hfz29_7 := blk_frozen BK558.out 7
          have hnb30 := NB548_538.out
          have hnc30 := NB538_548.out
          have hcz31_0 : w16.cell? ⟨gb548, 0, none⟩ = some (.int .i64 t539) := (blk_cell BK548.out 0).trans rfl
          have hcz31_1 : w16.cell? ⟨gb548, 1, none⟩ = some (.int .i64 t540) := (blk_cell BK548.out 1).trans rfl
          have hcz31_2 : w16.cell? ⟨gb548, 2, none⟩ = some (.int .i64 t541) := (blk_cell BK548.out 2).trans rfl
          have hcz31_3 : w16.cell? ⟨gb548, 3, none⟩ = some (.int .i64 t542) := (blk_cell BK548.out 3).trans rfl
          have hcz31_4 : w16.cell? ⟨gb548, 4, none⟩ = some (.int .i64 t543) := (blk_cell BK548.out 4).trans rfl
          have hcz31_5 : w16.cell? ⟨gb548, 5, none⟩ = some (.int .i64 t544) := (blk_cell BK548.out 5).trans rfl
          have hcz31_6 : w16.cell? ⟨gb548, 6, none⟩ = some (.int .i64 t545) := (blk_cell BK548.out 6).trans rfl
          have hcz31_7 : w16.cell? ⟨gb548, 7, none⟩ = some (.int .i64 t546) := (blk_cell BK548.out 7).trans rfl
          have hfz31_0 := blk_frozen BK548.out 0
          have hfz31_1 := blk_frozen BK548.out 1
          have hfz31_2 := blk_frozen BK548.out 2
          have hfz31_3 := blk_frozen BK548.out 3
          have hfz31_4 := blk_frozen BK548.out 4
          have hfz31_5 := blk_frozen BK548.out 5
          have hfz31_6 := blk_frozen BK548.out 6
          have hfz31_7 := blk_frozen BK548.out 7
          go_wp2
          go_meet
          case rel => exact ⟨_, (!t557), (by first | rfl | (simp; done) | (simp [*]; done)), H', ⟨by first | omega | exact Nat.le_refl _⟩, ⟨by (with_reducible repeat (first | refine blk_drewN ?_ _ | refine blk_drew ?_ | refine blk_alloc ?_ _)); refine blk_far ?_ NB538_558.out _; (with_reducible repeat (first | refine blk_drewN ?_ _ | refine blk_drew ?_ | refine blk_alloc ?_ _)); refine blk_far ?_ NB538_558.out _; (with_reducible repeat (first | refine blk_drewN ?_ _ | refine blk_drew ?_ | refine blk_alloc ?_ _)); refine blk_far ?_ NB538_558.out _; (with_reducible repeat (first | refine blk_drewN ?_ _ | refine blk_drew ?_ | refine blk_alloc ?_ _)); refine blk_far ?_ NB538_558.out _; (with_reducible repeat (first | refine blk_drewN ?_ _ | refine blk_drew ?_ | refine blk_alloc ?_ _)); refine blk_far ?_ NB538_558.out _; (with_reducible repeat (first | refine blk_drewN ?_ _ | refine blk_drew ?_ | refine blk_alloc ?_ _)); refine blk_far ?_ NB538_558.out _; (with_reducible repeat (first | refine blk_drewN ?_ _ | refine blk_drew ?_ | refine blk_alloc ?_ _)); refine blk_far ?_ NB538_558.out _; (with_reducible repeat (first | refine blk_drewN ?_ _ | refine blk_drew ?_ | refine blk_alloc ?_ _)); refine blk_far ?_ NB538_558.out _; (with_reducible repeat (first | refine blk_drewN ?_ _ | refine blk_drew ?_ | refine blk_alloc ?_ _)); exact BK538.out⟩, ⟨by (with_reducible repeat (first | refine blk_drewN ?_ _ | refine blk_drew ?_ | refine blk_alloc ?_ _)); refine blk_far ?_ NB548_558.out _; (with_reducible repeat (first | refine blk_drewN ?_ _ | refine blk_drew ?_ | refine blk_alloc ?_ _)); refine blk_far ?_ NB548_558.out _; (with_reducible repeat (first | refine blk_drewN ?_ _ | refine blk_drew ?_ | refine blk_alloc ?_ _)); refine blk_far ?_ NB548_558.out _; (with_reducible repeat (first | refine blk_drewN ?_ _ | refine blk_drew ?_ | refine blk_alloc ?_ _)); refine blk_far ?_ NB548_558.out _; (with_reducible repeat (first | refine blk_drewN ?_ _ | refine blk_drew ?_ | refine blk_alloc ?_ _)); refine blk_far ?_ NB548_558.out _; (with_reducible repeat (first | refine blk_drewN ?_ _ | refine blk_drew ?_ | refine blk_alloc ?_ _)); refine blk_far ?_ NB548_558.out _; (with_reducible repeat (first | refine blk_drewN ?_ _ | refine blk_drew ?_ | refine blk_alloc ?_ _)); refine blk_far ?_ NB548_558.out _; (with_reducible repeat (first | refine blk_drewN ?_ _ | refine blk_drew ?_ | refine blk_alloc ?_ _)); refine blk_far ?_ NB548_558.out _; (with_reducible repeat (first | refine blk_drewN ?_ _ | refine blk_drew ?_ | refine blk_alloc ?_ _)); exact BK548.out⟩, ⟨by (with_reducible repeat (first | refine blk_drewN ?_ _ | refine blk_drew ?_ | refine blk_alloc ?_ _)); refine blk_put (cs := #[.int .i64 t549, .int .i64 t550, .int .i64 t551, .int .i64 t552, .int .i64 t553, .int .i64 t554, .int .i64 t555, .int .i64 0]) ?_ 7 _ rfl; (with_reducible repeat (first | refine blk_drewN ?_ _ | refine blk_drew ?_ | refine blk_alloc ?_ _)); refine blk_put (cs := #[.int .i64 t549, .int .i64 t550, .int .i64 t551, .int .i64 t552, .int .i64 t553, .int .i64 t554, .int .i64 0, .int .i64 0]) ?_ 6 _ rfl; (with_reducible repeat (first | refine blk_drewN ?_ _ | refine blk_drew ?_ | refine blk_alloc ?_ _)); refine blk_put (cs := #[.int .i64 t549, .int .i64 t550, .int .i64 t551, .int .i64 t552, .int .i64 t553, .int .i64 0, .int .i64 0, .int .i64 0]) ?_ 5 _ rfl; (with_reducible repeat (first | refine blk_drewN ?_ _ | refine blk_drew ?_ | refine blk_alloc ?_ _)); refine blk_put (cs := #[.int .i64 t549, .int .i64 t550, .int .i64 t551, .int .i64 t552, .int .i64 0, .int .i64 0, .int .i64 0, .int .i64 0]) ?_ 4 _ rfl; (with_reducible repeat (first | refine blk_drewN ?_ _ | refine blk_drew ?_ | refine blk_alloc ?_ _)); refine blk_put (cs := #[.int .i64 t549, .int .i64 t550, .int .i64 t551, .int .i64 0, .int .i64 0, .int .i64 0, .int .i64 0, .int .i64 0]) ?_ 3 _ rfl; (with_reducible repeat (first | refine blk_drewN ?_ _ | refine blk_drew ?_ | refine blk_alloc ?_ _)); refine blk_put (cs := #[.int .i64 t549, .int .i64 t550, .int .i64 0, .int .i64 0, .int .i64 0, .int .i64 0, .int .i64 0, .int .i64 0]) ?_ 2 _ rfl; (with_reducible repeat (first | refine blk_drewN ?_ _ | refine blk_drew ?_ | refine blk_alloc ?_ _)); refine blk_put (cs := #[.int .i64 t549, .int .i64 0, .int .i64 0, .int .i64 0, .int .i64 0, .int .i64 0, .int .i64 0, .int .i64 0]) ?_ 1 _ rfl; (with_reducible repeat (first | refine blk_drewN ?_ _ | refine blk_drew ?_ | refine blk_alloc ?_ _)); refine blk_put (cs := #[.int .i64 0, .int .i64 0, .int .i64 0, .int .i64 0, .int .i64 0, .int .i64 0, .int .i64 0, .int .i64 0]) ?_ 0 _ rfl; (with_reducible repeat (first | refine blk_drewN ?_ _ | refine blk_drew ?_ | refine blk_alloc ?_ _)); exact BK558.out⟩, ⟨by repeat (first | (with_reducible first | exact HB.out | apply below_alloc | apply pw_below_drewN | apply below_drew1 | refine below_set ?_ GE538.out | refine below_set ?_ GE548.out | refine below_set ?_ GE558.out) | exact HB.out)⟩⟩
    case rest =>
      clear HC6
      try clear c1
      try clear c2
      try clear c2b0
      try clear c2b1
      try clear p2
      try clear c3
      try clear c4
      try clear c7
      try clear c12
      try clear c17
      try clear c18
      try clear c20
      try clear c20b0
      try clear c20b1
      try clear c20b2
      try clear c21
      try clear c21b0
      try clear c22
      try clear c23
      try clear c25
      try clear c27
      try clear c28
      try clear c30
      try clear hcz13_0
      try clear hcz13_1
      try clear hcz13_2
      try clear hcz13_3
      try clear hcz13_4
      try clear hcz13_5
      try clear hcz13_6
      try clear hcz13_7
      try clear hcz14_0
      try clear hcz14_1
      try clear hcz14_2
      try clear hcz14_3
      try clear hcz14_4
      try clear hcz14_5
      try clear hcz14_6
      try clear hcz14_7
      try clear hcz19_0
      try clear hcz19_1
      try clear hcz19_2
      try clear hcz19_3
      try clear hcz19_4
      try clear hcz19_5
      try clear hcz19_6
      try clear hcz19_7
      try clear hcz24_0
      try clear hcz24_1
      try clear hcz24_2
      try clear hcz24_3
      try clear hcz24_4
      try clear hcz24_5
      try clear hcz24_6
      try clear hcz24_7
      try clear hcz26_0
      try clear hcz26_1
      try clear hcz26_2
      try clear hcz26_3
      try clear hcz26_4
      try clear hcz26_5
      try clear hcz26_6
      try clear hcz26_7
      try clear hcz29_0
      try clear hcz29_1
      try clear hcz29_2
      try clear hcz29_3
      try clear hcz29_4
      try clear hcz29_5
      try clear hcz29_6
      try clear hcz29_7
      try clear hcz31_0
      try clear hcz31_1
      try clear hcz31_2
      try clear hcz31_3
      try clear hcz31_4
      try clear hcz31_5
      try clear hcz31_6
      try clear hcz31_7
      try clear hcz9_0
      try clear hcz9_1
      try clear hcz9_2
      try clear hcz9_3
      try clear hcz9_4
      try clear hcz9_5
      try clear hcz9_6
      try clear hcz9_7
      try clear hfz13_0
      try clear hfz13_1
      try clear hfz13_2
      try clear hfz13_3
      try clear hfz13_4
      try clear hfz13_5
      try clear hfz13_6
      try clear hfz13_7
      try clear hfz14_0
      try clear hfz14_1
      try clear hfz14_2
      try clear hfz14_3
      try clear hfz14_4
      try clear hfz14_5
      try clear hfz14_6
      try clear hfz14_7
      try clear hfz19_0
      try clear hfz19_1
      try clear hfz19_2
      try clear hfz19_3
      try clear hfz19_4
      try clear hfz19_5
      try clear hfz19_6
      try clear hfz19_7
      try clear hfz24_0
      try clear hfz24_1
      try clear hfz24_2
      try clear hfz24_3
      try clear hfz24_4
      try clear hfz24_5
      try clear hfz24_6
      try clear hfz24_7
      try clear hfz26_0
      try clear hfz26_1
      try clear hfz26_2
      try clear hfz26_3
      try clear hfz26_4
      try clear hfz26_5
      try clear hfz26_6
      try clear hfz26_7
      try clear hfz29_0
      try clear hfz29_1
      try clear hfz29_2
      try clear hfz29_3
      try clear hfz29_4
      try clear hfz29_5
      try clear hfz29_6
      try clear hfz29_7
      try clear hfz31_0
      try clear hfz31_1
      try clear hfz31_2
      try clear hfz31_3
      try clear hfz31_4
      try clear hfz31_5
      try clear hfz31_6
      try clear hfz31_7
      try clear hfz9_0
      try clear hfz9_1
      try clear hfz9_2
      try clear hfz9_3
      try clear hfz9_4
      try clear hfz9_5
      try clear hfz9_6
      try clear hfz9_7
      obtain ⟨kq, x45_5, rfl, HA, HJ5, BK538, BK548, BK558, HB⟩ := hcut
      cases kq with
      | zero => exact absurd HA.out (by simp [laws_FnRecUndo.j0])
      | succ kj5 =>
        have H := HA.out
        clear HA
        simp only [laws_FnRecUndo.j0] at H
        by_cases c32 : x45_5 = true
        · subst c32
          have H1 : (if (t557 == t547) = true then (some (t549 == t539 && (t550 == t540 && (t551 == t541 && (t552 == t542 && (t553 == t543 && (t554 == t544 && (t555 == t545 && (t556 == t546))))))))) else (some false)) = some r := by rw [if_pos rfl] at H; exact H
          clear H
          have H := H1
          clear H1
          by_cases c33 : (t557 == t547) = true
          · rw [if_pos c33] at H
            have c33b0 : (t557 == t547) = true := c33
            (try (have c33b1 : decide (t557 = t547) = true := by simpa using c33))
            (try (have c33b2 : (t557 == t547) = true := by simpa using c33))
            clear c33
            obtain rfl := Option.some.inj H
            have hnb34 := NB558_538.out
            have hnc34 := NB538_558.out
            have hnb35 := NB558_548.out
            have hnc35 := NB548_558.out
            have hcz36_0 : wc.cell? ⟨gb558, 0, none⟩ = some (.int .i64 t549) := (blk_cell BK558.out 0).trans rfl
            have hcz36_1 : wc.cell? ⟨gb558, 1, none⟩ = some (.int .i64 t550) := (blk_cell BK558.out 1).trans rfl
            have hcz36_2 : wc.cell? ⟨gb558, 2, none⟩ = some (.int .i64 t551) := (blk_cell BK558.out 2).trans rfl
            have hcz36_3 : wc.cell? ⟨gb558, 3, none⟩ = some (.int .i64 t552) := (blk_cell BK558.out 3).trans rfl
            have hcz36_4 : wc.cell? ⟨gb558, 4, none⟩ = some (.int .i64 t553) := (blk_cell BK558.out 4).trans rfl
            have hcz36_5 : wc.cell? ⟨gb558, 5, none⟩ = some (.int .i64 t554) := (blk_cell BK558.out 5).trans rfl
            have hcz36_6 : wc.cell? ⟨gb558, 6, none⟩ = some (.int .i64 t555) := (blk_cell BK558.out 6).trans rfl
            have hcz36_7 : wc.cell? ⟨gb558, 7, none⟩ = some (.int .i64 t556) := (blk_cell BK558.out 7).trans rfl
            have hfz36_0 := blk_frozen BK558.out 0
            have hfz36_1 := blk_frozen BK558.out 1
            have hfz36_2 := blk_frozen BK558.out 2
            have hfz36_3 := blk_frozen BK558.out 3
            have hfz36_4 := blk_frozen BK558.out 4
            have hfz36_5 := blk_frozen BK558.out 5
            have hfz36_6 := blk_frozen BK558.out 6
            have hfz36_7 := blk_frozen BK558.out 7
            have hnb37 := NB548_538.out
            have hnc37 := NB538_548.out
            have hcz38_0 : wc.cell? ⟨gb548, 0, none⟩ = some (.int .i64 t539) := (blk_cell BK548.out 0).trans rfl
            have hcz38_1 : wc.cell? ⟨gb548, 1, none⟩ = some (.int .i64 t540) := (blk_cell BK548.out 1).trans rfl
            have hcz38_2 : wc.cell? ⟨gb548, 2, none⟩ = some (.int .i64 t541) := (blk_cell BK548.out 2).trans rfl
            have hcz38_3 : wc.cell? ⟨gb548, 3, none⟩ = some (.int .i64 t542) := (blk_cell BK548.out 3).trans rfl
            have hcz38_4 : wc.cell? ⟨gb548, 4, none⟩ = some (.int .i64 t543) := (blk_cell BK548.out 4).trans rfl
            have hcz38_5 : wc.cell? ⟨gb548, 5, none⟩ = some (.int .i64 t544) := (blk_cell BK548.out 5).trans rfl
            have hcz38_6 : wc.cell? ⟨gb548, 6, none⟩ = some (.int .i64 t545) := (blk_cell BK548.out 6).trans rfl
            have hcz38_7 : wc.cell? ⟨gb548, 7, none⟩ = some (.int .i64 t546) := (blk_cell BK548.out 7).trans rfl
            have hfz38_0 := blk_frozen BK548.out 0
            have hfz38_1 := blk_frozen BK548.out 1
            have hfz38_2 := blk_frozen BK548.out 2
            have hfz38_3 := blk_frozen BK548.out 3
            have hfz38_4 := blk_frozen BK548.out 4
            have hfz38_5 := blk_frozen BK548.out 5
            have hfz38_6 := blk_frozen BK548.out 6
            have hfz38_7 := blk_frozen BK548.out 7
            go_wp2
            go_ret
            exact ⟨by first | rfl | (simp [errW_none, errW_some] <;> rfl) | (simp [*, errW_none, errW_some] <;> rfl), by repeat (first | (with_reducible first | exact HB.out | apply below_alloc | apply pw_below_drewN | apply below_drew1 | refine below_set ?_ GE538.out | refine below_set ?_ GE548.out | refine below_set ?_ GE558.out) | exact HB.out)⟩
          · rw [if_neg c33] at H
            have c33b0 : (t557 == t547) = false := by simpa using c33
            (try (have c33b1 : decide (t557 = t547) = false := by simpa using c33))
            (try (have c33b2 : (t557 == t547) = false := by simpa using c33))
            (try (have c33b3 : ¬ (t557 = t547) := by simpa using c33))
            clear c33
            obtain rfl := Option.some.inj H
            exact absurd hT_.out (by simp)
        · replace c32 := Bool.eq_false_iff.mpr c32
          subst c32
          have H1 : (if t549 = 6 then (if t550 = t530 then (if t551 = t531 then (if t552 = t532 then (if t554 = t533 then (if t555 = t537 then (if t556 = t535 then ((impl_RecOk.f kj5 t549 t550 t551 t552 t553 t554 t555 t556).bind fun t559 => (laws_FnRecUndo.j1 kj5 (!t559) t529 t530 t531 t532 t533 t534 t535 t536 t549 t550 t551 t552 t553 t554 t555 t556)) else (laws_FnRecUndo.j1 kj5 true t529 t530 t531 t532 t533 t534 t535 t536 t549 t550 t551 t552 t553 t554 t555 t556)) else (laws_FnRecUndo.j1 kj5 true t529 t530 t531 t532 t533 t534 t535 t536 t549 t550 t551 t552 t553 t554 t555 t556)) else (laws_FnRecUndo.j1 kj5 true t529 t530 t531 t532 t533 t534 t535 t536 t549 t550 t551 t552 t553 t554 t555 t556)) else (laws_FnRecUndo.j1 kj5 true t529 t530 t531 t532 t533 t534 t535 t536 t549 t550 t551 t552 t553 t554 t555 t556)) else (laws_FnRecUndo.j1 kj5 true t529 t530 t531 t532 t533 t534 t535 t536 t549 t550 t551 t552 t553 t554 t555 t556)) else (laws_FnRecUndo.j1 kj5 true t529 t530 t531 t532 t533 t534 t535 t536 t549 t550 t551 t552 t553 t554 t555 t556)) else (laws_FnRecUndo.j1 kj5 true t529 t530 t531 t532 t533 t534 t535 t536 t549 t550 t551 t552 t553 t554 t555 t556)) = some r := by rw [if_neg (show ¬ (false = true) by decide)] at H; exact H
          clear H
          have H := H1
          clear H1
          have HC39 := Aside0.mk H
          clear H
          go_upto_region 8 with (fail)
          go_cut [102] (fun v102 wc => ∃ (kq : Nat) (x102_38 : Bool), v102 = .bool x102_38 ∧ Aside0 (laws_FnRecUndo.j1 kq x102_38 t529 t530 t531 t532 t533 t534 t535 t536 t549 t550 t551 t552 t553 t554 t555 t556 = some r) ∧ Aside0 (kq ≤ kj5) ∧ Aside0 (wc.heap[gb538]? = some (.cells #[.int .i64 t529, .int .i64 t530, .int .i64 t531, .int .i64 t532, .int .i64 t533, .int .i64 t534, .int .i64 t535, .int .i64 t536] 41 (0, 0))) ∧ Aside0 (wc.heap[gb548]? = some (.cells #[.int .i64 t539, .int .i64 t540, .int .i64 t541, .int .i64 t542, .int .i64 t543, .int .i64 t544, .int .i64 t545, .int .i64 t546] 41 (0, 0))) ∧ Aside0 (wc.heap[gb558]? = some (.cells #[.int .i64 t549, .int .i64 t550, .int .i64 t551, .int .i64 t552, .int .i64 t553, .int .i64 t554, .int .i64 t555, .int .i64 t556] 41 (0, 0))) ∧ Aside0 (Below w.heap.size w wc))
          case first =>
            have H := HC39.out
            clear HC39
            by_cases c40 : t549 = 6
            · rw [if_pos c40] at H
              have c40b0 : (t549 == 6) = true := beq_iff_eq.mpr c40
              have c40b1 : (t549 != 6) = false := bne_eq_false_iff_eq.mpr c40
              clear c40
              (first | rw [c40b0] | (simp only [i64_w, i32_w]; rw [c40b0]) | skip)
              by_cases c41 : t550 = t530
              · rw [if_pos c41] at H
                have c41b0 : (t550 == t530) = true := beq_iff_eq.mpr c41
                have c41b1 : (t550 != t530) = false := bne_eq_false_iff_eq.mpr c41
                clear c41
                by_cases c42 : t551 = t531
                · rw [if_pos c42] at H
                  have c42b0 : (t551 == t531) = true := beq_iff_eq.mpr c42
                  have c42b1 : (t551 != t531) = false := bne_eq_false_iff_eq.mpr c42
                  clear c42
                  by_cases c43 : t552 = t532
                  · rw [if_pos c43] at H
                    have c43b0 : (t552 == t532) = true := beq_iff_eq.mpr c43
                    have c43b1 : (t552 != t532) = false := bne_eq_false_iff_eq.mpr c43
                    clear c43
                    by_cases c44 : t554 = t533
                    · rw [if_pos c44] at H
                      have c44b0 : (t554 == t533) = true := beq_iff_eq.mpr c44
                      have c44b1 : (t554 != t533) = false := bne_eq_false_iff_eq.mpr c44
                      clear c44
                      by_cases c45 : t555 = t537
                      · rw [if_pos c45] at H
                        have c45b0 : (t555 == t537) = true := beq_iff_eq.mpr c45
                        have c45b1 : (t555 != t537) = false := bne_eq_false_iff_eq.mpr c45
                        clear c45
                        by_cases c46 : t556 = t535
                        · rw [if_pos c46] at H
                          have c46b0 : (t556 == t535) = true := beq_iff_eq.mpr c46
                          have c46b1 : (t556 != t535) = false := bne_eq_false_iff_eq.mpr c46
                          clear c46
                          replace H := Option.bind_eq_some_iff.mp H
                          obtain ⟨t559, A470, H⟩ := H
                          replace H : (laws_FnRecUndo.j1 kj5 (!t559) t529 t530 t531 t532 t533 t534 t535 t536 t549 t550 t551 t552 t553 t554 t555 t556) = some r := H
                          have A47 := Aside0.mk A470
                          clear A470
                          have H' := Aside0.mk H
                          clear H
                          have hnb48 := NB558_538.out
                          have hnc48 := NB538_558.out
                          have hnb49 := NB558_548.out
                          have hnc49 := NB548_558.out
                          have hcz50_0 : wc.cell? ⟨gb558, 0, none⟩ = some (.int .i64 t549) := (blk_cell BK558.out 0).trans rfl
                          have hcz50_1 : wc.cell? ⟨gb558, 1, none⟩ = some (.int .i64 t550) := (blk_cell BK558.out 1).trans rfl
                          have hcz50_2 : wc.cell? ⟨gb558, 2, none⟩ = some (.int .i64 t551) := (blk_cell BK558.out 2).trans rfl
                          have hcz50_3 : wc.cell? ⟨gb558, 3, none⟩ = some (.int .i64 t552) := (blk_cell BK558.out 3).trans rfl
                          have hcz50_4 : wc.cell? ⟨gb558, 4, none⟩ = some (.int .i64 t553) := (blk_cell BK558.out 4).trans rfl
                          have hcz50_5 : wc.cell? ⟨gb558, 5, none⟩ = some (.int .i64 t554) := (blk_cell BK558.out 5).trans rfl
                          have hcz50_6 : wc.cell? ⟨gb558, 6, none⟩ = some (.int .i64 t555) := (blk_cell BK558.out 6).trans rfl
                          have hcz50_7 : wc.cell? ⟨gb558, 7, none⟩ = some (.int .i64 t556) := (blk_cell BK558.out 7).trans rfl
                          have hfz50_0 := blk_frozen BK558.out 0
                          have hfz50_1 := blk_frozen BK558.out 1
                          have hfz50_2 := blk_frozen BK558.out 2
                          have hfz50_3 := blk_frozen BK558.out 3
                          have hfz50_4 := blk_frozen BK558.out 4
                          have hfz50_5 := blk_frozen BK558.out 5
                          have hfz50_6 := blk_frozen BK558.out 6
                          have hfz50_7 := blk_frozen BK558.out 7
                          have hnb51 := NB538_548.out
                          have hnc51 := NB548_538.out
                          have hcz52_0 : wc.cell? ⟨gb538, 0, none⟩ = some (.int .i64 t529) := (blk_cell BK538.out 0).trans rfl
                          have hcz52_1 : wc.cell? ⟨gb538, 1, none⟩ = some (.int .i64 t530) := (blk_cell BK538.out 1).trans rfl
                          have hcz52_2 : wc.cell? ⟨gb538, 2, none⟩ = some (.int .i64 t531) := (blk_cell BK538.out 2).trans rfl
                          have hcz52_3 : wc.cell? ⟨gb538, 3, none⟩ = some (.int .i64 t532) := (blk_cell BK538.out 3).trans rfl
                          have hcz52_4 : wc.cell? ⟨gb538, 4, none⟩ = some (.int .i64 t533) := (blk_cell BK538.out 4).trans rfl
                          have hcz52_5 : wc.cell? ⟨gb538, 5, none⟩ = some (.int .i64 t534) := (blk_cell BK538.out 5).trans rfl
                          have hcz52_6 : wc.cell? ⟨gb538, 6, none⟩ = some (.int .i64 t535) := (blk_cell BK538.out 6).trans rfl
                          have hcz52_7 : wc.cell? ⟨gb538, 7, none⟩ = some (.int .i64 t536) := (blk_cell BK538.out 7).trans rfl
                          have hfz52_0 := blk_frozen BK538.out 0
                          have hfz52_1 := blk_frozen BK538.out 1
                          have hfz52_2 := blk_frozen BK538.out 2
                          have hfz52_3 := blk_frozen BK538.out 3
                          have hfz52_4 := blk_frozen BK538.out 4
                          have hfz52_5 := blk_frozen BK538.out 5
                          have hfz52_6 := blk_frozen BK538.out 6
                          have hfz52_7 := blk_frozen BK538.out 7
                          go_wp2_with (first | (go_at_call 41; (with_reducible refine (impl_RecOk.calls kj5 t549 t550 t551 t552 t553 t554 t555 t556 t559 _ A47.out).mono ?_); rintro e w53 ⟨rfl, hb⟩; have n0_ := Aside0.mk (blk_below (g := gb538) (o := .cells #[.int .i64 t529, .int .i64 t530, .int .i64 t531, .int .i64 t532, .int .i64 t533, .int .i64 t534, .int .i64 t535, .int .i64 t536] 41 (0, 0)) (by (with_reducible repeat (first | refine blk_drewN ?_ _ | refine blk_drew ?_ | refine blk_alloc ?_ _)); exact BK538.out) hb); have n1_ := Aside0.mk (blk_below (g := gb548) (o := .cells #[.int .i64 t539, .int .i64 t540, .int .i64 t541, .int .i64 t542, .int .i64 t543, .int .i64 t544, .int .i64 t545, .int .i64 t546] 41 (0, 0)) (by (with_reducible repeat (first | refine blk_drewN ?_ _ | refine blk_drew ?_ | refine blk_alloc ?_ _)); exact BK548.out) hb); have n2_ := Aside0.mk (blk_below (g := gb558) (o := .cells #[.int .i64 t549, .int .i64 t550, .int .i64 t551, .int .i64 t552, .int .i64 t553, .int .i64 t554, .int .i64 t555, .int .i64 t556] 41 (0, 0)) (by (with_reducible repeat (first | refine blk_drewN ?_ _ | refine blk_drew ?_ | refine blk_alloc ?_ _)); exact BK558.out) hb); have n3_ := Aside0.mk (below_step (by repeat (first | (with_reducible first | exact HB.out | apply below_alloc | apply pw_below_drewN | apply below_drew1 | refine below_set ?_ GE538.out | refine below_set ?_ GE548.out | refine below_set ?_ GE558.out) | exact HB.out)) hb); clear BK538; clear BK548; clear BK558; clear HB; have BK538 := n0_; have BK548 := n1_; have BK558 := n2_; have HB := n3_; clear n0_ n1_ n2_ n3_; (try clear hb); (try clear hb2); (try clear hk); (try clear hi)))
                          go_meet
                          case rel => exact ⟨_, (!t559), (by first | rfl | (simp; done) | (simp [*]; done)), H', ⟨by have := HJ5.out; first | omega | exact Nat.le_refl _⟩, ⟨by (with_reducible repeat (first | refine blk_drewN ?_ _ | refine blk_drew ?_ | refine blk_alloc ?_ _)); exact BK538.out⟩, ⟨by (with_reducible repeat (first | refine blk_drewN ?_ _ | refine blk_drew ?_ | refine blk_alloc ?_ _)); exact BK548.out⟩, ⟨by (with_reducible repeat (first | refine blk_drewN ?_ _ | refine blk_drew ?_ | refine blk_alloc ?_ _)); exact BK558.out⟩, ⟨by repeat (first | (with_reducible first | exact HB.out | apply below_alloc | apply pw_below_drewN | apply below_drew1 | refine below_set ?_ GE538.out | refine below_set ?_ GE548.out | refine below_set ?_ GE558.out) | exact HB.out)⟩⟩
                        · rw [if_neg c46] at H
                          have c46b0 : (t556 == t535) = false := beq_eq_false_iff_ne.mpr c46
                          have c46b1 : (t556 != t535) = true := bne_iff_ne.mpr c46
                          have H' := Aside0.mk H
                          clear H
                          have hnb54 := NB558_538.out
                          have hnc54 := NB538_558.out
                          have hnb55 := NB558_548.out
                          have hnc55 := NB548_558.out
                          have hcz56_0 : wc.cell? ⟨gb558, 0, none⟩ = some (.int .i64 t549) := (blk_cell BK558.out 0).trans rfl
                          have hcz56_1 : wc.cell? ⟨gb558, 1, none⟩ = some (.int .i64 t550) := (blk_cell BK558.out 1).trans rfl
                          have hcz56_2 : wc.cell? ⟨gb558, 2, none⟩ = some (.int .i64 t551) := (blk_cell BK558.out 2).trans rfl
                          have hcz56_3 : wc.cell? ⟨gb558, 3, none⟩ = some (.int .i64 t552) := (blk_cell BK558.out 3).trans rfl
                          have hcz56_4 : wc.cell? ⟨gb558, 4, none⟩ = some (.int .i64 t553) := (blk_cell BK558.out 4).trans rfl
                          have hcz56_5 : wc.cell? ⟨gb558, 5, none⟩ = some (.int .i64 t554) := (blk_cell BK558.out 5).trans rfl
                          have hcz56_6 : wc.cell? ⟨gb558, 6, none⟩ = some (.int .i64 t555) := (blk_cell BK558.out 6).trans rfl
                          have hcz56_7 : wc.cell? ⟨gb558, 7, none⟩ = some (.int .i64 t556) := (blk_cell BK558.out 7).trans rfl
                          have hfz56_0 := blk_frozen BK558.out 0
                          have hfz56_1 := blk_frozen BK558.out 1
                          have hfz56_2 := blk_frozen BK558.out 2
                          have hfz56_3 := blk_frozen BK558.out 3
                          have hfz56_4 := blk_frozen BK558.out 4
                          have hfz56_5 := blk_frozen BK558.out 5
                          have hfz56_6 := blk_frozen BK558.out 6
                          have hfz56_7 := blk_frozen BK558.out 7
                          have hnb57 := NB538_548.out
                          have hnc57 := NB548_538.out
                          have hcz58_0 : wc.cell? ⟨gb538, 0, none⟩ = some (.int .i64 t529) := (blk_cell BK538.out 0).trans rfl
                          have hcz58_1 : wc.cell? ⟨gb538, 1, none⟩ = some (.int .i64 t530) := (blk_cell BK538.out 1).trans rfl
                          have hcz58_2 : wc.cell? ⟨gb538, 2, none⟩ = some (.int .i64 t531) := (blk_cell BK538.out 2).trans rfl
                          have hcz58_3 : wc.cell? ⟨gb538, 3, none⟩ = some (.int .i64 t532) := (blk_cell BK538.out 3).trans rfl
                          have hcz58_4 : wc.cell? ⟨gb538, 4, none⟩ = some (.int .i64 t533) := (blk_cell BK538.out 4).trans rfl
                          have hcz58_5 : wc.cell? ⟨gb538, 5, none⟩ = some (.int .i64 t534) := (blk_cell BK538.out 5).trans rfl
                          have hcz58_6 : wc.cell? ⟨gb538, 6, none⟩ = some (.int .i64 t535) := (blk_cell BK538.out 6).trans rfl
                          have hcz58_7 : wc.cell? ⟨gb538, 7, none⟩ = some (.int .i64 t536) := (blk_cell BK538.out 7).trans rfl
                          have hfz58_0 := blk_frozen BK538.out 0
                          have hfz58_1 := blk_frozen BK538.out 1
                          have hfz58_2 := blk_frozen BK538.out 2
                          have hfz58_3 := blk_frozen BK538.out 3
                          have hfz58_4 := blk_frozen BK538.out 4
                          have hfz58_5 := blk_frozen BK538.out 5
                          have hfz58_6 := blk_frozen BK538.out 6
                          have hfz58_7 := blk_frozen BK538.out 7
                          go_wp2
                          go_meet
                          case rel => exact ⟨_, (true), (by first | rfl | (simp; done) | (simp [*]; done)), H', ⟨by have := HJ5.out; first | omega | exact Nat.le_refl _⟩, ⟨by (with_reducible repeat (first | refine blk_drewN ?_ _ | refine blk_drew ?_ | refine blk_alloc ?_ _)); exact BK538.out⟩, ⟨by (with_reducible repeat (first | refine blk_drewN ?_ _ | refine blk_drew ?_ | refine blk_alloc ?_ _)); exact BK548.out⟩, ⟨by (with_reducible repeat (first | refine blk_drewN ?_ _ | refine blk_drew ?_ | refine blk_alloc ?_ _)); exact BK558.out⟩, ⟨by repeat (first | (with_reducible first | exact HB.out | apply below_alloc | apply pw_below_drewN | apply below_drew1 | refine below_set ?_ GE538.out | refine below_set ?_ GE548.out | refine below_set ?_ GE558.out) | exact HB.out)⟩⟩
                      · rw [if_neg c45] at H
                        have c45b0 : (t555 == t537) = false := beq_eq_false_iff_ne.mpr c45
                        have c45b1 : (t555 != t537) = true := bne_iff_ne.mpr c45
                        have H' := Aside0.mk H
                        clear H
                        have hnb59 := NB558_538.out
                        have hnc59 := NB538_558.out
                        have hnb60 := NB558_548.out
                        have hnc60 := NB548_558.out
                        have hcz61_0 : wc.cell? ⟨gb558, 0, none⟩ = some (.int .i64 t549) := (blk_cell BK558.out 0).trans rfl
                        have hcz61_1 : wc.cell? ⟨gb558, 1, none⟩ = some (.int .i64 t550) := (blk_cell BK558.out 1).trans rfl
                        have hcz61_2 : wc.cell? ⟨gb558, 2, none⟩ = some (.int .i64 t551) := (blk_cell BK558.out 2).trans rfl
                        have hcz61_3 : wc.cell? ⟨gb558, 3, none⟩ = some (.int .i64 t552) := (blk_cell BK558.out 3).trans rfl
                        have hcz61_4 : wc.cell? ⟨gb558, 4, none⟩ = some (.int .i64 t553) := (blk_cell BK558.out 4).trans rfl
                        have hcz61_5 : wc.cell? ⟨gb558, 5, none⟩ = some (.int .i64 t554) := (blk_cell BK558.out 5).trans rfl
                        have hcz61_6 : wc.cell? ⟨gb558, 6, none⟩ = some (.int .i64 t555) := (blk_cell BK558.out 6).trans rfl
                        have hcz61_7 : wc.cell? ⟨gb558, 7, none⟩ = some (.int .i64 t556) := (blk_cell BK558.out 7).trans rfl
                        have hfz61_0 := blk_frozen BK558.out 0
                        have hfz61_1 := blk_frozen BK558.out 1
                        have hfz61_2 := blk_frozen BK558.out 2
                        have hfz61_3 := blk_frozen BK558.out 3
                        have hfz61_4 := blk_frozen BK558.out 4
                        have hfz61_5 := blk_frozen BK558.out 5
                        have hfz61_6 := blk_frozen BK558.out 6
                        have hfz61_7 := blk_frozen BK558.out 7
                        have hnb62 := NB538_548.out
                        have hnc62 := NB548_538.out
                        have hcz63_0 : wc.cell? ⟨gb538, 0, none⟩ = some (.int .i64 t529) := (blk_cell BK538.out 0).trans rfl
                        have hcz63_1 : wc.cell? ⟨gb538, 1, none⟩ = some (.int .i64 t530) := (blk_cell BK538.out 1).trans rfl
                        have hcz63_2 : wc.cell? ⟨gb538, 2, none⟩ = some (.int .i64 t531) := (blk_cell BK538.out 2).trans rfl
                        have hcz63_3 : wc.cell? ⟨gb538, 3, none⟩ = some (.int .i64 t532) := (blk_cell BK538.out 3).trans rfl
                        have hcz63_4 : wc.cell? ⟨gb538, 4, none⟩ = some (.int .i64 t533) := (blk_cell BK538.out 4).trans rfl
                        have hcz63_5 : wc.cell? ⟨gb538, 5, none⟩ = some (.int .i64 t534) := (blk_cell BK538.out 5).trans rfl
                        have hcz63_6 : wc.cell? ⟨gb538, 6, none⟩ = some (.int .i64 t535) := (blk_cell BK538.out 6).trans rfl
                        have hcz63_7 : wc.cell? ⟨gb538, 7, none⟩ = some (.int .i64 t536) := (blk_cell BK538.out 7).trans rfl
                        have hfz63_0 := blk_frozen BK538.out 0
                        have hfz63_1 := blk_frozen BK538.out 1
                        have hfz63_2 := blk_frozen BK538.out 2
                        have hfz63_3 := blk_frozen BK538.out 3
                        have hfz63_4 := blk_frozen BK538.out 4
                        have hfz63_5 := blk_frozen BK538.out 5
                        have hfz63_6 := blk_frozen BK538.out 6
                        have hfz63_7 := blk_frozen BK538.out 7
                        go_wp2
                        go_meet
                        case rel => exact ⟨_, (true), (by first | rfl | (simp; done) | (simp [*]; done)), H', ⟨by have := HJ5.out; first | omega | exact Nat.le_refl _⟩, ⟨by (with_reducible repeat (first | refine blk_drewN ?_ _ | refine blk_drew ?_ | refine blk_alloc ?_ _)); exact BK538.out⟩, ⟨by (with_reducible repeat (first | refine blk_drewN ?_ _ | refine blk_drew ?_ | refine blk_alloc ?_ _)); exact BK548.out⟩, ⟨by (with_reducible repeat (first | refine blk_drewN ?_ _ | refine blk_drew ?_ | refine blk_alloc ?_ _)); exact BK558.out⟩, ⟨by repeat (first | (with_reducible first | exact HB.out | apply below_alloc | apply pw_below_drewN | apply below_drew1 | refine below_set ?_ GE538.out | refine below_set ?_ GE548.out | refine below_set ?_ GE558.out) | exact HB.out)⟩⟩
                    · rw [if_neg c44] at H
                      have c44b0 : (t554 == t533) = false := beq_eq_false_iff_ne.mpr c44
                      have c44b1 : (t554 != t533) = true := bne_iff_ne.mpr c44
                      have H' := Aside0.mk H
                      clear H
                      have hnb64 := NB558_538.out
                      have hnc64 := NB538_558.out
                      have hnb65 := NB558_548.out
                      have hnc65 := NB548_558.out
                      have hcz66_0 : wc.cell? ⟨gb558, 0, none⟩ = some (.int .i64 t549) := (blk_cell BK558.out 0).trans rfl
                      have hcz66_1 : wc.cell? ⟨gb558, 1, none⟩ = some (.int .i64 t550) := (blk_cell BK558.out 1).trans rfl
                      have hcz66_2 : wc.cell? ⟨gb558, 2, none⟩ = some (.int .i64 t551) := (blk_cell BK558.out 2).trans rfl
                      have hcz66_3 : wc.cell? ⟨gb558, 3, none⟩ = some (.int .i64 t552) := (blk_cell BK558.out 3).trans rfl
                      have hcz66_4 : wc.cell? ⟨gb558, 4, none⟩ = some (.int .i64 t553) := (blk_cell BK558.out 4).trans rfl
                      have hcz66_5 : wc.cell? ⟨gb558, 5, none⟩ = some (.int .i64 t554) := (blk_cell BK558.out 5).trans rfl
                      have hcz66_6 : wc.cell? ⟨gb558, 6, none⟩ = some (.int .i64 t555) := (blk_cell BK558.out 6).trans rfl
                      have hcz66_7 : wc.cell? ⟨gb558, 7, none⟩ = some (.int .i64 t556) := (blk_cell BK558.out 7).trans rfl
                      have hfz66_0 := blk_frozen BK558.out 0
                      have hfz66_1 := blk_frozen BK558.out 1
                      have hfz66_2 := blk_frozen BK558.out 2
                      have hfz66_3 := blk_frozen BK558.out 3
                      have hfz66_4 := blk_frozen BK558.out 4
                      have hfz66_5 := blk_frozen BK558.out 5
                      have hfz66_6 := blk_frozen BK558.out 6
                      have hfz66_7 := blk_frozen BK558.out 7
                      have hnb67 := NB538_548.out
                      have hnc67 := NB548_538.out
                      have hcz68_0 : wc.cell? ⟨gb538, 0, none⟩ = some (.int .i64 t529) := (blk_cell BK538.out 0).trans rfl
                      have hcz68_1 : wc.cell? ⟨gb538, 1, none⟩ = some (.int .i64 t530) := (blk_cell BK538.out 1).trans rfl
                      have hcz68_2 : wc.cell? ⟨gb538, 2, none⟩ = some (.int .i64 t531) := (blk_cell BK538.out 2).trans rfl
                      have hcz68_3 : wc.cell? ⟨gb538, 3, none⟩ = some (.int .i64 t532) := (blk_cell BK538.out 3).trans rfl
                      have hcz68_4 : wc.cell? ⟨gb538, 4, none⟩ = some (.int .i64 t533) := (blk_cell BK538.out 4).trans rfl
                      have hcz68_5 : wc.cell? ⟨gb538, 5, none⟩ = some (.int .i64 t534) := (blk_cell BK538.out 5).trans rfl
                      have hcz68_6 : wc.cell? ⟨gb538, 6, none⟩ = some (.int .i64 t535) := (blk_cell BK538.out 6).trans rfl
                      have hcz68_7 : wc.cell? ⟨gb538, 7, none⟩ = some (.int .i64 t536) := (blk_cell BK538.out 7).trans rfl
                      have hfz68_0 := blk_frozen BK538.out 0
                      have hfz68_1 := blk_frozen BK538.out 1
                      have hfz68_2 := blk_frozen BK538.out 2
                      have hfz68_3 := blk_frozen BK538.out 3
                      have hfz68_4 := blk_frozen BK538.out 4
                      have hfz68_5 := blk_frozen BK538.out 5
                      have hfz68_6 := blk_frozen BK538.out 6
                      have hfz68_7 := blk_frozen BK538.out 7
                      go_wp2
                      go_meet
                      case rel => exact ⟨_, (true), (by first | rfl | (simp; done) | (simp [*]; done)), H', ⟨by have := HJ5.out; first | omega | exact Nat.le_refl _⟩, ⟨by (with_reducible repeat (first | refine blk_drewN ?_ _ | refine blk_drew ?_ | refine blk_alloc ?_ _)); exact BK538.out⟩, ⟨by (with_reducible repeat (first | refine blk_drewN ?_ _ | refine blk_drew ?_ | refine blk_alloc ?_ _)); exact BK548.out⟩, ⟨by (with_reducible repeat (first | refine blk_drewN ?_ _ | refine blk_drew ?_ | refine blk_alloc ?_ _)); exact BK558.out⟩, ⟨by repeat (first | (with_reducible first | exact HB.out | apply below_alloc | apply pw_below_drewN | apply below_drew1 | refine below_set ?_ GE538.out | refine below_set ?_ GE548.out | refine below_set ?_ GE558.out) | exact HB.out)⟩⟩
                  · rw [if_neg c43] at H
                    have c43b0 : (t552 == t532) = false := beq_eq_false_iff_ne.mpr c43
                    have c43b1 : (t552 != t532) = true := bne_iff_ne.mpr c43
                    have H' := Aside0.mk H
                    clear H
                    have hnb69 := NB558_538.out
                    have hnc69 := NB538_558.out
                    have hnb70 := NB558_548.out
                    have hnc70 := NB548_558.out
                    have hcz71_0 : wc.cell? ⟨gb558, 0, none⟩ = some (.int .i64 t549) := (blk_cell BK558.out 0).trans rfl
                    have hcz71_1 : wc.cell? ⟨gb558, 1, none⟩ = some (.int .i64 t550) := (blk_cell BK558.out 1).trans rfl
                    have hcz71_2 : wc.cell? ⟨gb558, 2, none⟩ = some (.int .i64 t551) := (blk_cell BK558.out 2).trans rfl
                    have hcz71_3 : wc.cell? ⟨gb558, 3, none⟩ = some (.int .i64 t552) := (blk_cell BK558.out 3).trans rfl
                    have hcz71_4 : wc.cell? ⟨gb558, 4, none⟩ = some (.int .i64 t553) := (blk_cell BK558.out 4).trans rfl
                    have hcz71_5 : wc.cell? ⟨gb558, 5, none⟩ = some (.int .i64 t554) := (blk_cell BK558.out 5).trans rfl
                    have hcz71_6 : wc.cell? ⟨gb558, 6, none⟩ = some (.int .i64 t555) := (blk_cell BK558.out 6).trans rfl
                    have hcz71_7 : wc.cell? ⟨gb558, 7, none⟩ = some (.int .i64 t556) := (blk_cell BK558.out 7).trans rfl
                    have hfz71_0 := blk_frozen BK558.out 0
                    have hfz71_1 := blk_frozen BK558.out 1
                    have hfz71_2 := blk_frozen BK558.out 2
                    have hfz71_3 := blk_frozen BK558.out 3
                    have hfz71_4 := blk_frozen BK558.out 4
                    have hfz71_5 := blk_frozen BK558.out 5
                    have hfz71_6 := blk_frozen BK558.out 6
                    have hfz71_7 := blk_frozen BK558.out 7
                    have hnb72 := NB538_548.out
                    have hnc72 := NB548_538.out
                    have hcz73_0 : wc.cell? ⟨gb538, 0, none⟩ = some (.int .i64 t529) := (blk_cell BK538.out 0).trans rfl
                    have hcz73_1 : wc.cell? ⟨gb538, 1, none⟩ = some (.int .i64 t530) := (blk_cell BK538.out 1).trans rfl
                    have hcz73_2 : wc.cell? ⟨gb538, 2, none⟩ = some (.int .i64 t531) := (blk_cell BK538.out 2).trans rfl
                    have hcz73_3 : wc.cell? ⟨gb538, 3, none⟩ = some (.int .i64 t532) := (blk_cell BK538.out 3).trans rfl
                    have hcz73_4 : wc.cell? ⟨gb538, 4, none⟩ = some (.int .i64 t533) := (blk_cell BK538.out 4).trans rfl
                    have hcz73_5 : wc.cell? ⟨gb538, 5, none⟩ = some (.int .i64 t534) := (blk_cell BK538.out 5).trans rfl
                    have hcz73_6 : wc.cell? ⟨gb538, 6, none⟩ = some (.int .i64 t535) := (blk_cell BK538.out 6).trans rfl
                    have hcz73_7 : wc.cell? ⟨gb538, 7, none⟩ = some (.int .i64 t536) := (blk_cell BK538.out 7).trans rfl
                    have hfz73_0 := blk_frozen BK538.out 0
                    have hfz73_1 := blk_frozen BK538.out 1
                    have hfz73_2 := blk_frozen BK538.out 2
                    have hfz73_3 := blk_frozen BK538.out 3
                    have hfz73_4 := blk_frozen BK538.out 4
                    have hfz73_5 := blk_frozen BK538.out 5
                    have hfz73_6 := blk_frozen BK538.out 6
                    have hfz73_7 := blk_frozen BK538.out 7
                    go_wp2
                    go_meet
                    case rel => exact ⟨_, (true), (by first | rfl | (simp; done) | (simp [*]; done)), H', ⟨by have := HJ5.out; first | omega | exact Nat.le_refl _⟩, ⟨by (with_reducible repeat (first | refine blk_drewN ?_ _ | refine blk_drew ?_ | refine blk_alloc ?_ _)); exact BK538.out⟩, ⟨by (with_reducible repeat (first | refine blk_drewN ?_ _ | refine blk_drew ?_ | refine blk_alloc ?_ _)); exact BK548.out⟩, ⟨by (with_reducible repeat (first | refine blk_drewN ?_ _ | refine blk_drew ?_ | refine blk_alloc ?_ _)); exact BK558.out⟩, ⟨by repeat (first | (with_reducible first | exact HB.out | apply below_alloc | apply pw_below_drewN | apply below_drew1 | refine below_set ?_ GE538.out | refine below_set ?_ GE548.out | refine below_set ?_ GE558.out) | exact HB.out)⟩⟩
                · rw [if_neg c42] at H
                  have c42b0 : (t551 == t531) = false := beq_eq_false_iff_ne.mpr c42
                  have c42b1 : (t551 != t531) = true := bne_iff_ne.mpr c42
                  have H' := Aside0.mk H
                  clear H
                  have hnb74 := NB558_538.out
                  have hnc74 := NB538_558.out
                  have hnb75 := NB558_548.out
                  have hnc75 := NB548_558.out
                  have hcz76_0 : wc.cell? ⟨gb558, 0, none⟩ = some (.int .i64 t549) := (blk_cell BK558.out 0).trans rfl
                  have hcz76_1 : wc.cell? ⟨gb558, 1, none⟩ = some (.int .i64 t550) := (blk_cell BK558.out 1).trans rfl
                  have hcz76_2 : wc.cell? ⟨gb558, 2, none⟩ = some (.int .i64 t551) := (blk_cell BK558.out 2).trans rfl
                  have hcz76_3 : wc.cell? ⟨gb558, 3, none⟩ = some (.int .i64 t552) := (blk_cell BK558.out 3).trans rfl
                  have hcz76_4 : wc.cell? ⟨gb558, 4, none⟩ = some (.int .i64 t553) := (blk_cell BK558.out 4).trans rfl
                  have hcz76_5 : wc.cell? ⟨gb558, 5, none⟩ = some (.int .i64 t554) := (blk_cell BK558.out 5).trans rfl
                  have hcz76_6 : wc.cell? ⟨gb558, 6, none⟩ = some (.int .i64 t555) := (blk_cell BK558.out 6).trans rfl
                  have hcz76_7 : wc.cell? ⟨gb558, 7, none⟩ = some (.int .i64 t556) := (blk_cell BK558.out 7).trans rfl
                  have hfz76_0 := blk_frozen BK558.out 0
                  have hfz76_1 := blk_frozen BK558.out 1
                  have hfz76_2 := blk_frozen BK558.out 2
                  have hfz76_3 := blk_frozen BK558.out 3
                  have hfz76_4 := blk_frozen BK558.out 4
                  have hfz76_5 := blk_frozen BK558.out 5
                  have hfz76_6 := blk_frozen BK558.out 6
                  have hfz76_7 := blk_frozen BK558.out 7
                  have hnb77 := NB538_548.out
                  have hnc77 := NB548_538.out
                  have hcz78_0 : wc.cell? ⟨gb538, 0, none⟩ = some (.int .i64 t529) := (blk_cell BK538.out 0).trans rfl
                  have hcz78_1 : wc.cell? ⟨gb538, 1, none⟩ = some (.int .i64 t530) := (blk_cell BK538.out 1).trans rfl
                  have hcz78_2 : wc.cell? ⟨gb538, 2, none⟩ = some (.int .i64 t531) := (blk_cell BK538.out 2).trans rfl
                  have hcz78_3 : wc.cell? ⟨gb538, 3, none⟩ = some (.int .i64 t532) := (blk_cell BK538.out 3).trans rfl
                  have hcz78_4 : wc.cell? ⟨gb538, 4, none⟩ = some (.int .i64 t533) := (blk_cell BK538.out 4).trans rfl
                  have hcz78_5 : wc.cell? ⟨gb538, 5, none⟩ = some (.int .i64 t534) := (blk_cell BK538.out 5).trans rfl
                  have hcz78_6 : wc.cell? ⟨gb538, 6, none⟩ = some (.int .i64 t535) := (blk_cell BK538.out 6).trans rfl
                  have hcz78_7 : wc.cell? ⟨gb538, 7, none⟩ = some (.int .i64 t536) := (blk_cell BK538.out 7).trans rfl
                  have hfz78_0 := blk_frozen BK538.out 0
                  have hfz78_1 := blk_frozen BK538.out 1
                  have hfz78_2 := blk_frozen BK538.out 2
                  have hfz78_3 := blk_frozen BK538.out 3
                  have hfz78_4 := blk_frozen BK538.out 4
                  have hfz78_5 := blk_frozen BK538.out 5
                  have hfz78_6 := blk_frozen BK538.out 6
                  have hfz78_7 := blk_frozen BK538.out 7
                  go_wp2
                  go_meet
                  case rel => exact ⟨_, (true), (by first | rfl | (simp; done) | (simp [*]; done)), H', ⟨by have := HJ5.out; first | omega | exact Nat.le_refl _⟩, ⟨by (with_reducible repeat (first | refine blk_drewN ?_ _ | refine blk_drew ?_ | refine blk_alloc ?_ _)); exact BK538.out⟩, ⟨by (with_reducible repeat (first | refine blk_drewN ?_ _ | refine blk_drew ?_ | refine blk_alloc ?_ _)); exact BK548.out⟩, ⟨by (with_reducible repeat (first | refine blk_drewN ?_ _ | refine blk_drew ?_ | refine blk_alloc ?_ _)); exact BK558.out⟩, ⟨by repeat (first | (with_reducible first | exact HB.out | apply below_alloc | apply pw_below_drewN | apply below_drew1 | refine below_set ?_ GE538.out | refine below_set ?_ GE548.out | refine below_set ?_ GE558.out) | exact HB.out)⟩⟩
              · rw [if_neg c41] at H
                have c41b0 : (t550 == t530) = false := beq_eq_false_iff_ne.mpr c41
                have c41b1 : (t550 != t530) = true := bne_iff_ne.mpr c41
                have H' := Aside0.mk H
                clear H
                have hnb79 := NB558_538.out
                have hnc79 := NB538_558.out
                have hnb80 := NB558_548.out
                have hnc80 := NB548_558.out
                have hcz81_0 : wc.cell? ⟨gb558, 0, none⟩ = some (.int .i64 t549) := (blk_cell BK558.out 0).trans rfl
                have hcz81_1 : wc.cell? ⟨gb558, 1, none⟩ = some (.int .i64 t550) := (blk_cell BK558.out 1).trans rfl
                have hcz81_2 : wc.cell? ⟨gb558, 2, none⟩ = some (.int .i64 t551) := (blk_cell BK558.out 2).trans rfl
                have hcz81_3 : wc.cell? ⟨gb558, 3, none⟩ = some (.int .i64 t552) := (blk_cell BK558.out 3).trans rfl
                have hcz81_4 : wc.cell? ⟨gb558, 4, none⟩ = some (.int .i64 t553) := (blk_cell BK558.out 4).trans rfl
                have hcz81_5 : wc.cell? ⟨gb558, 5, none⟩ = some (.int .i64 t554) := (blk_cell BK558.out 5).trans rfl
                have hcz81_6 : wc.cell? ⟨gb558, 6, none⟩ = some (.int .i64 t555) := (blk_cell BK558.out 6).trans rfl
                have hcz81_7 : wc.cell? ⟨gb558, 7, none⟩ = some (.int .i64 t556) := (blk_cell BK558.out 7).trans rfl
                have hfz81_0 := blk_frozen BK558.out 0
                have hfz81_1 := blk_frozen BK558.out 1
                have hfz81_2 := blk_frozen BK558.out 2
                have hfz81_3 := blk_frozen BK558.out 3
                have hfz81_4 := blk_frozen BK558.out 4
                have hfz81_5 := blk_frozen BK558.out 5
                have hfz81_6 := blk_frozen BK558.out 6
                have hfz81_7 := blk_frozen BK558.out 7
                have hnb82 := NB538_548.out
                have hnc82 := NB548_538.out
                have hcz83_0 : wc.cell? ⟨gb538, 0, none⟩ = some (.int .i64 t529) := (blk_cell BK538.out 0).trans rfl
                have hcz83_1 : wc.cell? ⟨gb538, 1, none⟩ = some (.int .i64 t530) := (blk_cell BK538.out 1).trans rfl
                have hcz83_2 : wc.cell? ⟨gb538, 2, none⟩ = some (.int .i64 t531) := (blk_cell BK538.out 2).trans rfl
                have hcz83_3 : wc.cell? ⟨gb538, 3, none⟩ = some (.int .i64 t532) := (blk_cell BK538.out 3).trans rfl
                have hcz83_4 : wc.cell? ⟨gb538, 4, none⟩ = some (.int .i64 t533) := (blk_cell BK538.out 4).trans rfl
                have hcz83_5 : wc.cell? ⟨gb538, 5, none⟩ = some (.int .i64 t534) := (blk_cell BK538.out 5).trans rfl
                have hcz83_6 : wc.cell? ⟨gb538, 6, none⟩ = some (.int .i64 t535) := (blk_cell BK538.out 6).trans rfl
                have hcz83_7 : wc.cell? ⟨gb538, 7, none⟩ = some (.int .i64 t536) := (blk_cell BK538.out 7).trans rfl
                have hfz83_0 := blk_frozen BK538.out 0
                have hfz83_1 := blk_frozen BK538.out 1
                have hfz83_2 := blk_frozen BK538.out 2
                have hfz83_3 := blk_frozen BK538.out 3
                have hfz83_4 := blk_frozen BK538.out 4
                have hfz83_5 := blk_frozen BK538.out 5
                have hfz83_6 := blk_frozen BK538.out 6
                have hfz83_7 := blk_frozen BK538.out 7
                go_wp2
                go_meet
                case rel => exact ⟨_, (true), (by first | rfl | (simp; done) | (simp [*]; done)), H', ⟨by have := HJ5.out; first | omega | exact Nat.le_refl _⟩, ⟨by (with_reducible repeat (first | refine blk_drewN ?_ _ | refine blk_drew ?_ | refine blk_alloc ?_ _)); exact BK538.out⟩, ⟨by (with_reducible repeat (first | refine blk_drewN ?_ _ | refine blk_drew ?_ | refine blk_alloc ?_ _)); exact BK548.out⟩, ⟨by (with_reducible repeat (first | refine blk_drewN ?_ _ | refine blk_drew ?_ | refine blk_alloc ?_ _)); exact BK558.out⟩, ⟨by repeat (first | (with_reducible first | exact HB.out | apply below_alloc | apply pw_below_drewN | apply below_drew1 | refine below_set ?_ GE538.out | refine below_set ?_ GE548.out | refine below_set ?_ GE558.out) | exact HB.out)⟩⟩
            · rw [if_neg c40] at H
              have c40b0 : (t549 == 6) = false := beq_eq_false_iff_ne.mpr c40
              have c40b1 : (t549 != 6) = true := bne_iff_ne.mpr c40
              (first | rw [c40b0] | (simp only [i64_w, i32_w]; rw [c40b0]) | skip)
              have H' := Aside0.mk H
              clear H
              have hnb84 := NB558_538.out
              have hnc84 := NB538_558.out
              have hnb85 := NB558_548.out
              have hnc85 := NB548_558.out
              have hcz86_0 : wc.cell? ⟨gb558, 0, none⟩ = some (.int .i64 t549) := (blk_cell BK558.out 0).trans rfl
              have hcz86_1 : wc.cell? ⟨gb558, 1, none⟩ = some (.int .i64 t550) := (blk_cell BK558.out 1).trans rfl
              have hcz86_2 : wc.cell? ⟨gb558, 2, none⟩ = some (.int .i64 t551) := (blk_cell BK558.out 2).trans rfl
              have hcz86_3 : wc.cell? ⟨gb558, 3, none⟩ = some (.int .i64 t552) := (blk_cell BK558.out 3).trans rfl
              have hcz86_4 : wc.cell? ⟨gb558, 4, none⟩ = some (.int .i64 t553) := (blk_cell BK558.out 4).trans rfl
              have hcz86_5 : wc.cell? ⟨gb558, 5, none⟩ = some (.int .i64 t554) := (blk_cell BK558.out 5).trans rfl
              have hcz86_6 : wc.cell? ⟨gb558, 6, none⟩ = some (.int .i64 t555) := (blk_cell BK558.out 6).trans rfl
              have hcz86_7 : wc.cell? ⟨gb558, 7, none⟩ = some (.int .i64 t556) := (blk_cell BK558.out 7).trans rfl
              have hfz86_0 := blk_frozen BK558.out 0
              have hfz86_1 := blk_frozen BK558.out 1
              have hfz86_2 := blk_frozen BK558.out 2
              have hfz86_3 := blk_frozen BK558.out 3
              have hfz86_4 := blk_frozen BK558.out 4
              have hfz86_5 := blk_frozen BK558.out 5
              have hfz86_6 := blk_frozen BK558.out 6
              have hfz86_7 := blk_frozen BK558.out 7
              go_wp2
              go_meet
              case rel => exact ⟨_, (true), (by first | rfl | (simp; done) | (simp [*]; done)), H', ⟨by have := HJ5.out; first | omega | exact Nat.le_refl _⟩, ⟨by (with_reducible repeat (first | refine blk_drewN ?_ _ | refine blk_drew ?_ | refine blk_alloc ?_ _)); exact BK538.out⟩, ⟨by (with_reducible repeat (first | refine blk_drewN ?_ _ | refine blk_drew ?_ | refine blk_alloc ?_ _)); exact BK548.out⟩, ⟨by (with_reducible repeat (first | refine blk_drewN ?_ _ | refine blk_drew ?_ | refine blk_alloc ?_ _)); exact BK558.out⟩, ⟨by repeat (first | (with_reducible first | exact HB.out | apply below_alloc | apply pw_below_drewN | apply below_drew1 | refine below_set ?_ GE538.out | refine below_set ?_ GE548.out | refine below_set ?_ GE558.out) | exact HB.out)⟩⟩
          case rest =>
            clear HC39
            try clear p2
            try clear c3
            try clear c4
            try clear c5
            try clear c6
            try clear c7
            try clear c8
            try clear c32
            try clear c33
            try clear c33b0
            try clear c33b1
            try clear c33b2
            try clear c34
            try clear c35
            try clear c37
            try clear c40
            try clear c40b0
            try clear c40b1
            try clear c41
            try clear c41b0
            try clear c41b1
            try clear c42
            try clear c42b0
            try clear c42b1
            try clear c43
            try clear c43b0
            try clear c43b1
            try clear c44
            try clear c44b0
            try clear c44b1
            try clear c45
            try clear c45b0
            try clear c45b1
            try clear c46
            try clear c46b0
            try clear c46b1
            try clear c48
            try clear c49
            try clear c51
            try clear c54
            try clear c55
            try clear c57
            try clear c59
            try clear c60
            try clear c62
            try clear c64
            try clear c65
            try clear c67
            try clear c69
            try clear c70
            try clear c72
            try clear c74
            try clear c75
            try clear c77
            try clear c79
            try clear c80
            try clear c82
            try clear c84
            try clear c85
            try clear hcz13_3
            try clear hcz13_4
            try clear hcz13_5
            try clear hcz13_6
            try clear hcz13_7
            try clear hcz14_0
            try clear hcz14_1
            try clear hcz14_2
            try clear hcz14_3
            try clear hcz14_4
            try clear hcz14_5
            try clear hcz14_6
            try clear hcz14_7
            try clear hcz19_0
            try clear hcz19_1
            try clear hcz19_2
            try clear hcz19_3
            try clear hcz19_4
            try clear hcz19_5
            try clear hcz19_6
            try clear hcz19_7
            try clear hcz24_0
            try clear hcz24_1
            try clear hcz24_2
            try clear hcz24_3
            try clear hcz24_4
            try clear hcz24_5
            try clear hcz24_6
            try clear hcz24_7
            try clear hcz26_0
            try clear hcz26_1
            try clear hcz26_2
            try clear hcz26_3
            try clear hcz26_4
            try clear hcz26_5
            try clear hcz26_6
            try clear hcz26_7
            try clear hcz29_0
            try clear hcz29_1
            try clear hcz29_2
            try clear hcz29_3
            try clear hcz29_4
            try clear hcz29_5
            try clear hcz29_6
            try clear hcz29_7
            try clear hcz31_0
            try clear hcz31_1
            try clear hcz31_2
            try clear hcz31_3
            try clear hcz31_4
            try clear hcz31_5
            try clear hcz31_6
            try clear hcz31_7
            try clear hcz36_0
            try clear hcz36_1
            try clear hcz36_2
            try clear hcz36_3
            try clear hcz36_4
            try clear hcz36_5
            try clear hcz36_6
            try clear hcz36_7
            try clear hcz38_0
            try clear hcz38_1
            try clear hcz38_2
            try clear hcz38_3
            try clear hcz38_4
            try clear hcz38_5
            try clear hcz38_6
            try clear hcz38_7
            try clear hcz50_0
            try clear hcz50_1
            try clear hcz50_2
            try clear hcz50_3
            try clear hcz50_4
            try clear hcz50_5
            try clear hcz50_6
            try clear hcz50_7
            try clear hcz52_0
            try clear hcz52_1
            try clear hcz52_2
            try clear hcz52_3
            try clear hcz52_4
            try clear hcz52_5
            try clear hcz52_6
            try clear hcz52_7
            try clear hcz56_0
            try clear hcz56_1
            try clear hcz56_2
            try clear hcz56_3
            try clear hcz56_4
            try clear hcz56_5
            try clear hcz56_6
            try clear hcz56_7
            try clear hcz58_0
            try clear hcz58_1
            try clear hcz58_2
            try clear hcz58_3
            try clear hcz58_4
            try clear hcz58_5
            try clear hcz58_6
            try clear hcz58_7
            try clear hcz61_0
            try clear hcz61_1
            try clear hcz61_2
            try clear hcz61_3
            try clear hcz61_4
            try clear hcz61_5
            try clear hcz61_6
            try clear hcz61_7
            try clear hcz63_0
            try clear hcz63_1
            try clear hcz63_2
            try clear hcz63_3
            try clear hcz63_4
            try clear hcz63_5
            try clear hcz63_6
            try clear hcz63_7
            try clear hcz66_0
            try clear hcz66_1
            try clear hcz66_2
            try clear hcz66_3
            try clear hcz66_4
            try clear hcz66_5
            try clear hcz66_6
            try clear hcz66_7
            try clear hcz68_0
            try clear hcz68_1
            try clear hcz68_2
            try clear hcz68_3
            try clear hcz68_4
            try clear hcz68_5
            try clear hcz68_6
            try clear hcz68_7
            try clear hcz71_0
            try clear hcz71_1
            try clear hcz71_2
            try clear hcz71_3
            try clear hcz71_4
            try clear hcz71_5
            try clear hcz71_6
            try clear hcz71_7
            try clear hcz73_0
            try clear hcz73_1
            try clear hcz73_2
            try clear hcz73_3
            try clear hcz73_4
            try clear hcz73_5
            try clear hcz73_6
            try clear hcz73_7
            try clear hcz76_0
            try clear hcz76_1
            try clear hcz76_2
            try clear hcz76_3
            try clear hcz76_4
            try clear hcz76_5
            try clear hcz76_6
            try clear hcz76_7
            try clear hcz78_0
            try clear hcz78_1
            try clear hcz78_2
            try clear hcz78_3
            try clear hcz78_4
            try clear hcz78_5
            try clear hcz78_6
            try clear hcz78_7
            try clear hcz81_0
            try clear hcz81_1
            try clear hcz81_2
            try clear hcz81_3
            try clear hcz81_4
            try clear hcz81_5
            try clear hcz81_6
            try clear hcz81_7
            try clear hcz83_0
            try clear hcz83_1
            try clear hcz83_2
            try clear hcz83_3
            try clear hcz83_4
            try clear hcz83_5
            try clear hcz83_6
            try clear hcz83_7
            try clear hcz86_0
            try clear hcz86_1
            try clear hcz86_2
            try clear hcz86_3
            try clear hcz86_4
            try clear hcz86_5
            try clear hcz86_6
            try clear hcz86_7
            try clear hcz9_0
            try clear hcz9_1
            try clear hcz9_2
            try clear hcz9_3
            try clear hcz9_4
            try clear hcz9_5
            try clear hcz9_6
            try clear hcz9_7
            try clear hfz13_0
            try clear hfz13_1
            try clear hfz13_2
            try clear hfz13_3
            try clear hfz13_4
            try clear hfz13_5
            try clear hfz13_6
            try clear hfz13_7
            try clear hfz14_0
            try clear hfz14_1
            try clear hfz14_2
            try clear hfz14_3
            try clear hfz14_4
            try clear hfz14_5
            try clear hfz14_6
            try clear hfz14_7
            try clear hfz19_0
            try clear hfz19_1
            try clear hfz19_2
            try clear hfz19_3
            try clear hfz19_4
            try clear hfz19_5
            try clear hfz19_6
            try clear hfz19_7
            try clear hfz24_0
            try clear hfz24_1
            try clear hfz24_2
            try clear hfz24_3
            try clear hfz24_4
            try clear hfz24_5
            try clear hfz24_6
            try clear hfz24_7
            try clear hfz26_0
            try clear hfz26_1
            try clear hfz26_2
            try clear hfz26_3
            try clear hfz26_4
            try clear hfz26_5
            try clear hfz26_6
            try clear hfz26_7
            try clear hfz29_0
            try clear hfz29_1
            try clear hfz29_2
            try clear hfz29_3
            try clear hfz29_4
            try clear hfz29_5
            try clear hfz29_6
            try clear hfz29_7
            try clear hfz31_0
            try clear hfz31_1
            try clear hfz31_2
            try clear hfz31_3
            try clear hfz31_4
            try clear hfz31_5
            try clear hfz31_6
            try clear hfz31_7
            try clear hfz36_0
            try clear hfz36_1
            try clear hfz36_2
            try clear hfz36_3
            try clear hfz36_4
            try clear hfz36_5
            try clear hfz36_6
            try clear hfz36_7
            try clear hfz38_0
            try clear hfz38_1
            try clear hfz38_2
            try clear hfz38_3
            try clear hfz38_4
            try clear hfz38_5
            try clear hfz38_6
            try clear hfz38_7
            try clear hfz50_0
            try clear hfz50_1
            try clear hfz50_2
            try clear hfz50_3
            try clear hfz50_4
            try clear hfz50_5
            try clear hfz50_6
            try clear hfz50_7
            try clear hfz52_0
            try clear hfz52_1
            try clear hfz52_2
            try clear hfz52_3
            try clear hfz52_4
            try clear hfz52_5
            try clear hfz52_6
            try clear hfz52_7
            try clear hfz56_0
            try clear hfz56_1
            try clear hfz56_2
            try clear hfz56_3
            try clear hfz56_4
            try clear hfz56_5
            try clear hfz56_6
            try clear hfz56_7
            try clear hfz58_0
            try clear hfz58_1
            try clear hfz58_2
            try clear hfz58_3
            try clear hfz58_4
            try clear hfz58_5
            try clear hfz58_6
            try clear hfz58_7
            try clear hfz61_0
            try clear hfz61_1
            try clear hfz61_2
            try clear hfz61_3
            try clear hfz61_4
            try clear hfz61_5
            try clear hfz61_6
            try clear hfz61_7
            try clear hfz63_0
            try clear hfz63_1
            try clear hfz63_2
            try clear hfz63_3
            try clear hfz63_4
            try clear hfz63_5
            try clear hfz63_6
            try clear hfz63_7
            try clear hfz66_0
            try clear hfz66_1
            try clear hfz66_2
            try clear hfz66_3
            try clear hfz66_4
            try clear hfz66_5
            try clear hfz66_6
            try clear hfz66_7
            try clear hfz68_0
            try clear hfz68_1
            try clear hfz68_2
            try clear hfz68_3
            try clear hfz68_4
            try clear hfz68_5
            try clear hfz68_6
            try clear hfz68_7
            try clear hfz71_0
            try clear hfz71_1
            try clear hfz71_2
            try clear hfz71_3
            try clear hfz71_4
            try clear hfz71_5
            try clear hfz71_6
            try clear hfz71_7
            try clear hfz73_0
            try clear hfz73_1
            try clear hfz73_2
            try clear hfz73_3
            try clear hfz73_4
            try clear hfz73_5
            try clear hfz73_6
            try clear hfz73_7
            try clear hfz76_0
            try clear hfz76_1
            try clear hfz76_2
            try clear hfz76_3
            try clear hfz76_4
            try clear hfz76_5
            try clear hfz76_6
            try clear hfz76_7
            try clear hfz78_0
            try clear hfz78_1
            try clear hfz78_2
            try clear hfz78_3
            try clear hfz78_4
            try clear hfz78_5
            try clear hfz78_6
            try clear hfz78_7
            try clear hfz81_0
            try clear hfz81_1
            try clear hfz81_2
            try clear hfz81_3
            try clear hfz81_4
            try clear hfz81_5
            try clear hfz81_6
            try clear hfz81_7
            try clear hfz83_0
            try clear hfz83_1
            try clear hfz83_2
            try clear hfz83_3
            try clear hfz83_4
            try clear hfz83_5
            try clear hfz83_6
            try clear hfz83_7
            try clear hfz86_0
            try clear hfz86_1
            try clear hfz86_2
            try clear hfz86_3
            try clear hfz86_4
            try clear hfz86_5
            try clear hfz86_6
            try clear hfz86_7
            try clear hfz9_0
            try clear hfz9_1
            try clear hfz9_2
            try clear hfz9_3
            try clear hfz9_4
            try clear hfz9_5
            try clear hfz9_6
            try clear hfz9_7
            obtain ⟨kq, x102_38, rfl, HA, HJ38, BK538, BK548, BK558, HB⟩ := hcut
            cases kq with
            | zero => exact absurd HA.out (by simp [laws_FnRecUndo.j1])
            | succ kj38 =>
              have H := HA.out
              clear HA
              simp only [laws_FnRecUndo.j1] at H
              by_cases c87 : x102_38 = true
              · subst c87
                have H1 : (some false) = some r := by rw [if_pos rfl] at H; exact H
                clear H
                have H := H1
                clear H1
                obtain rfl := Option.some.inj H
                exact absurd hT_.out (by simp)
              · replace c87 := Bool.eq_false_iff.mpr c87
                subst c87
                have H1 : ((some (([4, 5, 6] : List Int) : List Int)).bind fun y560 => (if t532 ≥ 0 then (if 0 ≤ t532 then (if t532 < (y560.length : Int) then ((some (y560.set (t532 : Int).toNat t533 : List Int)).bind fun y564 => ((impl_RecDo.f kj38 0 2 y564 t529 t530 t531 t532 t533 t534 t535 t536 1).bind fun bt565 => ((impl_RecDo.f kj38 bt565.1 bt565.2.1 bt565.2.2.1 t549 t550 t551 t552 t553 t554 t555 t556 2).bind fun bt572 => (if bt565.2.2.2 = true then (if bt572.2.2.2 = true then ((laws_ltHas.f kj38 bt572.1 bt572.2.1 bt572.2.2.1 0 2 y564).bind fun t579 => (some t579)) else (some false)) else (some false))))) else (none)) else (none)) else ((some (([0, 0, 0] : List Int) : List Int)).bind fun y580 => ((impl_RecDo.f kj38 0 t533 y580 t529 t530 t531 t532 t533 t534 t535 t536 1).bind fun bt583 => ((impl_RecDo.f kj38 bt583.1 bt583.2.1 bt583.2.2.1 t549 t550 t551 t552 t553 t554 t555 t556 2).bind fun bt590 => (if bt583.2.2.2 = true then (if bt590.2.2.2 = true then ((laws_ltHas.f kj38 bt590.1 bt590.2.1 bt590.2.2.1 0 t533 y580).bind fun t597 => (some t597)) else (some false)) else (some false))))))) = some r := by rw [if_neg (show ¬ (false = true) by decide)] at H; exact H
                clear H
                have H := H1
                clear H1
                obtain ⟨y560, hy560⟩ : ∃ y_ : List Int, y_ = (([4, 5, 6] : List Int)) := ⟨_, rfl⟩
                replace H : (if t532 ≥ 0 then (if 0 ≤ t532 then (if t532 < (y560.length : Int) then ((some (y560.set (t532 : Int).toNat t533 : List Int)).bind fun y564 => ((impl_RecDo.f kj38 0 2 y564 t529 t530 t531 t532 t533 t534 t535 t536 1).bind fun bt565 => ((impl_RecDo.f kj38 bt565.1 bt565.2.1 bt565.2.2.1 t549 t550 t551 t552 t553 t554 t555 t556 2).bind fun bt572 => (if bt565.2.2.2 = true then (if bt572.2.2.2 = true then ((laws_ltHas.f kj38 bt572.1 bt572.2.1 bt572.2.2.1 0 2 y564).bind fun t579 => (some t579)) else (some false)) else (some false))))) else (none)) else (none)) else ((some (([0, 0, 0] : List Int) : List Int)).bind fun y580 => ((impl_RecDo.f kj38 0 t533 y580 t529 t530 t531 t532 t533 t534 t535 t536 1).bind fun bt583 => ((impl_RecDo.f kj38 bt583.1 bt583.2.1 bt583.2.2.1 t549 t550 t551 t552 t553 t554 t555 t556 2).bind fun bt590 => (if bt583.2.2.2 = true then (if bt590.2.2.2 = true then ((laws_ltHas.f kj38 bt590.1 bt590.2.1 bt590.2.2.1 0 t533 y580).bind fun t597 => (some t597)) else (some false)) else (some false)))))) = some r := by first | (rw [hy560]; with_reducible exact H) | (have H2_ := (Option.bind_some _ _).symm.trans H; rw [hy560]; with_reducible exact H2_) | (have H2_ := (Option.bind_some _ _).symm.trans H; with_reducible exact H2_) | with_reducible exact H | (rw [hy560]; exact H) | exact H
                have Ny560 := Aside0.mk hy560
                clear hy560
                by_cases c88 : t532 ≥ 0
                · rw [if_pos c88] at H
                  have c88b0 : decide (0 ≤ t532) = true := decide_eq_true c88
                  clear c88
                  by_cases c89 : 0 ≤ t532
                  · rw [if_pos c89] at H
                    have c89b0 : decide (0 ≤ t532) = true := decide_eq_true c89
                    clear c89
                    by_cases c90 : t532 < (y560.length : Int)
                    · rw [if_pos c90] at H
                      have c90b0 : decide (t532 < (y560.length : Int)) = true := decide_eq_true c90
                      clear c90
                      obtain ⟨y564, hy564⟩ : ∃ y_ : List Int, y_ = (y560.set (t532 : Int).toNat t533) := ⟨_, rfl⟩
                      replace H : ((impl_RecDo.f kj38 0 2 y564 t529 t530 t531 t532 t533 t534 t535 t536 1).bind fun bt565 => ((impl_RecDo.f kj38 bt565.1 bt565.2.1 bt565.2.2.1 t549 t550 t551 t552 t553 t554 t555 t556 2).bind fun bt572 => (if bt565.2.2.2 = true then (if bt572.2.2.2 = true then ((laws_ltHas.f kj38 bt572.1 bt572.2.1 bt572.2.2.1 0 2 y564).bind fun t579 => (some t579)) else (some false)) else (some false)))) = some r := by first | (rw [hy564]; with_reducible exact H) | (have H2_ := (Option.bind_some _ _).symm.trans H; rw [hy564]; with_reducible exact H2_) | (have H2_ := (Option.bind_some _ _).symm.trans H; with_reducible exact H2_) | with_reducible exact H | (rw [hy564]; exact H) | exact H
                      have Ny564 := Aside0.mk hy564
                      clear hy564
                      replace H := Option.bind_eq_some_iff.mp H
                      obtain ⟨⟨t565, t566, t567, t570⟩, A920, H⟩ := H
                      replace H : ((impl_RecDo.f kj38 t565 t566 t567 t549 t550 t551 t552 t553 t554 t555 t556 2).bind fun bt572 => (if t570 = true then (if bt572.2.2.2 = true then ((laws_ltHas.f kj38 bt572.1 bt572.2.1 bt572.2.2.1 0 2 y564).bind fun t579 => (some t579)) else (some false)) else (some false))) = some r := H
                      have A92 := Aside0.mk A920
                      clear A920
                      replace H := Option.bind_eq_some_iff.mp H
                      obtain ⟨⟨t572, t573, t574, t577⟩, A930, H⟩ := H
                      replace H : (if t570 = true then (if t577 = true then ((laws_ltHas.f kj38 t572 t573 t574 0 2 y564).bind fun t579 => (some t579)) else (some false)) else (some false)) = some r := H
                      have A93 := Aside0.mk A930
                      clear A930
                      by_cases c94 : t570 = true
                      · subst c94
                        have H1 : (if t577 = true then ((laws_ltHas.f kj38 t572 t573 t574 0 2 y564).bind fun t579 => (some t579)) else (some false)) = some r := by rw [if_pos rfl] at H; exact H
                        clear H
                        have H := H1
                        clear H1
                        by_cases c95 : t577 = true
                        · subst c95
                          have H1 : ((laws_ltHas.f kj38 t572 t573 t574 0 2 y564).bind fun t579 => (some t579)) = some r := by rw [if_pos rfl] at H; exact H
                          clear H
                          have H := H1
                          clear H1
                          replace H := Option.bind_eq_some_iff.mp H
                          obtain ⟨t579, A960, H⟩ := H
                          replace H : (some t579) = some r := H
                          have A96 := Aside0.mk A960
                          clear A960
                          obtain rfl := Option.some.inj H
                          go_wp2_with (first | ((with_reducible refine gate_dst (N := 103) rfl ?_); refine Kd.R_lit (Kd.int .i64) _ 3 ?hg (N := 103) ?hd (xs := ([4, 5, 6] : List Int)) (inner := [.int .i64 4, .int .i64 5, .int .i64 6]) (ok := fun _ => True) (okp := fun _ => True) ?hr ?hp (fun _ hk => hk) trivial (Below.refl _ _) (Nat.le_refl _) (by simp) ?_; (case hd => rfl); (case hg => rfl); (case hr => first | (go_simp; done) | (go_simp; rfl)); (case hp => exact (Reps.one (show Kd.M (Kd.int .i64) _ _ _ 4 [.int .i64 4] from rfl) (Reps.one (show Kd.M (Kd.int .i64) _ _ _ 5 [.int .i64 5] from rfl) (Reps.one (show Kd.M (Kd.int .i64) _ _ _ 6 [.int .i64 6] from rfl) (Reps.none _ _))))); intro v561 w97 ho98 hb hg_ hnew_; clear hg_ hnew_; (first | rw [← Ny560.out] at ho98 | (simp only [Int.reduceToNat] at ho98; rw [← Ny560.out] at ho98)); have n0_ := Aside0.mk (Kd.R_lower ho98 (below_size (by repeat (first | (with_reducible first | exact HB.out | apply below_alloc | apply pw_below_drewN | apply below_drew1 | refine below_set ?_ GE538.out | refine below_set ?_ GE548.out | refine below_set ?_ GE558.out) | exact HB.out)))); have n1_ := Aside0.mk (blk_below (g := gb538) (o := .cells #[.int .i64 t529, .int .i64 t530, .int .i64 t531, .int .i64 t532, .int .i64 t533, .int .i64 t534, .int .i64 t535, .int .i64 t536] 41 (0, 0)) (by (with_reducible repeat (first | refine blk_drewN ?_ _ | refine blk_drew ?_ | refine blk_alloc ?_ _)); exact BK538.out) hb); have n2_ := Aside0.mk (blk_below (g := gb548) (o := .cells #[.int .i64 t539, .int .i64 t540, .int .i64 t541, .int .i64 t542, .int .i64 t543, .int .i64 t544, .int .i64 t545, .int .i64 t546] 41 (0, 0)) (by (with_reducible repeat (first | refine blk_drewN ?_ _ | refine blk_drew ?_ | refine blk_alloc ?_ _)); exact BK548.out) hb); have n3_ := Aside0.mk (blk_below (g := gb558) (o := .cells #[.int .i64 t549, .int .i64 t550, .int .i64 t551, .int .i64 t552, .int .i64 t553, .int .i64 t554, .int .i64 t555, .int .i64 t556] 41 (0, 0)) (by (with_reducible repeat (first | refine blk_drewN ?_ _ | refine blk_drew ?_ | refine blk_alloc ?_ _)); exact BK558.out) hb); have n4_ := Aside0.mk (below_step (by repeat (first | (with_reducible first | exact HB.out | apply below_alloc | apply pw_below_drewN | apply below_drew1 | refine below_set ?_ GE538.out | refine below_set ?_ GE548.out | refine below_set ?_ GE558.out) | exact HB.out)) hb); clear BK538; clear BK548; clear BK558; clear HB; have HO562 := n0_; have BK538 := n1_; have BK548 := n2_; have BK558 := n3_; have HB := n4_; clear n0_ n1_ n2_ n3_ n4_; clear hb ho98; obtain ⟨Ao99, co99, eo99⟩ := Kd.R_slice HO562.out; subst eo99) | ((with_reducible refine gate_dst (N := 9) rfl ?_); refine box_event ?hg (N := 9) ?hd (cs := #[.int .i64 0, .int .i64 0, .slice none 0 0]) (t := 25) ?hr ?_; (case hd => rfl); (case hg => rfl); (case hr => first | (go_simp; done) | (go_simp; rfl)); intro gb563 hg w100 hbox hb; have n0_ := Aside0.mk (Kd.R_below (by (with_reducible repeat (first | apply Kd.R_alloc | apply Kd.R_drewN | apply Kd.R_drew)); exact HO562.out) hb); have n1_ := Aside0.mk (blk_below (g := gb538) (o := .cells #[.int .i64 t529, .int .i64 t530, .int .i64 t531, .int .i64 t532, .int .i64 t533, .int .i64 t534, .int .i64 t535, .int .i64 t536] 41 (0, 0)) (by (with_reducible repeat (first | refine blk_drewN ?_ _ | refine blk_drew ?_ | refine blk_alloc ?_ _)); exact BK538.out) hb); have n2_ := Aside0.mk (blk_below (g := gb548) (o := .cells #[.int .i64 t539, .int .i64 t540, .int .i64 t541, .int .i64 t542, .int .i64 t543, .int .i64 t544, .int .i64 t545, .int .i64 t546] 41 (0, 0)) (by (with_reducible repeat (first | refine blk_drewN ?_ _ | refine blk_drew ?_ | refine blk_alloc ?_ _)); exact BK548.out) hb); have n3_ := Aside0.mk (blk_below (g := gb558) (o := .cells #[.int .i64 t549, .int .i64 t550, .int .i64 t551, .int .i64 t552, .int .i64 t553, .int .i64 t554, .int .i64 t555, .int .i64 t556] 41 (0, 0)) (by (with_reducible repeat (first | refine blk_drewN ?_ _ | refine blk_drew ?_ | refine blk_alloc ?_ _)); exact BK558.out) hb); have n4_ := Aside0.mk (below_step (by repeat (first | (with_reducible first | exact HB.out | apply below_alloc | apply pw_below_drewN | apply below_drew1 | refine below_set ?_ GE538.out | refine below_set ?_ GE548.out | refine below_set ?_ GE558.out) | exact HB.out)) hb); have n5_ := Aside0.mk (hbox); have n6_ := Aside0.mk ((by rw [hg]; exact (below_size (by repeat (first | (with_reducible first | exact HB.out | apply below_alloc | apply pw_below_drewN | apply below_drew1 | refine below_set ?_ GE538.out | refine below_set ?_ GE548.out | refine below_set ?_ GE558.out) | exact HB.out))) : w.heap.size ≤ gb563)); have n7_ := Aside0.mk ((by rw [hg]; exact (below_size (by repeat (first | (with_reducible first | exact HB.out | apply below_alloc | apply pw_below_drewN | apply below_drew1 | refine below_set ?_ GE538.out | refine below_set ?_ GE548.out | refine below_set ?_ GE558.out) | exact HB.out))) : w.heap.size ≤ gb563)); have n8_ := Aside0.mk ((by rw [hg]; exact Nat.ne_of_lt (blk_lt (g := gb538) (o := .cells #[.int .i64 t529, .int .i64 t530, .int .i64 t531, .int .i64 t532, .int .i64 t533, .int .i64 t534, .int .i64 t535, .int .i64 t536] 41 (0, 0)) (by (with_reducible repeat (first | refine blk_drewN ?_ _ | refine blk_drew ?_ | refine blk_alloc ?_ _)); exact BK538.out)) : gb538 ≠ gb563)); have n9_ := Aside0.mk ((by rw [hg]; exact Nat.ne_of_gt (blk_lt (g := gb538) (o := .cells #[.int .i64 t529, .int .i64 t530, .int .i64 t531, .int .i64 t532, .int .i64 t533, .int .i64 t534, .int .i64 t535, .int .i64 t536] 41 (0, 0)) (by (with_reducible repeat (first | refine blk_drewN ?_ _ | refine blk_drew ?_ | refine blk_alloc ?_ _)); exact BK538.out)) : gb563 ≠ gb538)); have n10_ := Aside0.mk ((by rw [hg]; exact Nat.ne_of_lt (blk_lt (g := gb548) (o := .cells #[.int .i64 t539, .int .i64 t540, .int .i64 t541, .int .i64 t542, .int .i64 t543, .int .i64 t544, .int .i64 t545, .int .i64 t546] 41 (0, 0)) (by (with_reducible repeat (first | refine blk_drewN ?_ _ | refine blk_drew ?_ | refine blk_alloc ?_ _)); exact BK548.out)) : gb548 ≠ gb563)); have n11_ := Aside0.mk ((by rw [hg]; exact Nat.ne_of_gt (blk_lt (g := gb548) (o := .cells #[.int .i64 t539, .int .i64 t540, .int .i64 t541, .int .i64 t542, .int .i64 t543, .int .i64 t544, .int .i64 t545, .int .i64 t546] 41 (0, 0)) (by (with_reducible repeat (first | refine blk_drewN ?_ _ | refine blk_drew ?_ | refine blk_alloc ?_ _)); exact BK548.out)) : gb563 ≠ gb548)); have n12_ := Aside0.mk ((by rw [hg]; exact Nat.ne_of_lt (blk_lt (g := gb558) (o := .cells #[.int .i64 t549, .int .i64 t550, .int .i64 t551, .int .i64 t552, .int .i64 t553, .int .i64 t554, .int .i64 t555, .int .i64 t556] 41 (0, 0)) (by (with_reducible repeat (first | refine blk_drewN ?_ _ | refine blk_drew ?_ | refine blk_alloc ?_ _)); exact BK558.out)) : gb558 ≠ gb563)); have n13_ := Aside0.mk ((by rw [hg]; exact Nat.ne_of_gt (blk_lt (g := gb558) (o := .cells #[.int .i64 t549, .int .i64 t550, .int .i64 t551, .int .i64 t552, .int .i64 t553, .int .i64 t554, .int .i64 t555, .int .i64 t556] 41 (0, 0)) (by (with_reducible repeat (first | refine blk_drewN ?_ _ | refine blk_drew ?_ | refine blk_alloc ?_ _)); exact BK558.out)) : gb563 ≠ gb558)); clear HO562; clear BK538; clear BK548; clear BK558; clear HB; have HO562 := n0_; have BK538 := n1_; have BK548 := n2_; have BK558 := n3_; have HB := n4_; have BK563 := n5_; have GW563 := n6_; have GE563 := n7_; have NB538_563 := n8_; have NB563_538 := n9_; have NB548_563 := n10_; have NB563_548 := n11_; have NB558_563 := n12_; have NB563_558 := n13_; clear n0_ n1_ n2_ n3_ n4_ n5_ n6_ n7_ n8_ n9_ n10_ n11_ n12_ n13_; clear hb hbox hg; have hnb101 := NB563_538.out; have hnc101 := NB538_563.out; have hnb102 := NB563_548.out; have hnc102 := NB548_563.out; have hnb103 := NB563_558.out; have hnc103 := NB558_563.out; have hcz104_0 : w100.cell? ⟨gb563, 0, none⟩ = some (.int .i64 0) := (blk_cell BK563.out 0).trans rfl; have hcz104_1 : w100.cell? ⟨gb563, 1, none⟩ = some (.int .i64 0) := (blk_cell BK563.out 1).trans rfl; have hcz104_2 : w100.cell? ⟨gb563, 2, none⟩ = some (.slice none 0 0) := (blk_cell BK563.out 2).trans rfl; have hfz104_0 := blk_frozen BK563.out 0; have hfz104_1 := blk_frozen BK563.out 1; have hfz104_2 := blk_frozen BK563.out 2) | ((with_reducible refine gate_store (t := 25) (p := 9) rfl ?_); refine store_event (t := 25) (p := 9) (v := ?vo_w105) (w1 := (((w100.setCell ⟨gb563, 0, none⟩ (.int .i64 0)).setCell ⟨gb563, 1, none⟩ (.int .i64 2)).setCell ⟨gb563, 2, none⟩ (.slice Ao99 y560.length co99))) ?hg ?ho ?hn ?hr ?_; (case ho => rfl); (case hg => rfl); (case hn => rfl); (case hr => first | (go_simp; done) | (go_simp; rfl)); intro w105 hw; have n0_ : Aside0 (Kd.R (Kd.int .i64) 3 w105 w.heap.size (fun _ => True) (.slice Ao99 y560.length co99) y560) := ⟨(by rw [hw]; exact (by (with_reducible repeat (first | apply Kd.R_alloc | apply Kd.R_drewN | apply Kd.R_drew)); exact Kd.R_mono (Kd.R_far (p := ⟨gb563, 2, none⟩) (Kd.R_far (p := ⟨gb563, 1, none⟩) (Kd.R_far (p := ⟨gb563, 0, none⟩) (Kd.R_types HO562.out BK563.out (by decide)) (fun _ hk => hk.2) (.int .i64 0)) (fun _ hk => hk.2) (.int .i64 2)) (fun _ hk => hk.2) (.slice Ao99 y560.length co99)) (fun _ hk => trivial)))⟩; have n1_ : Aside0 (w105.heap[gb538]? = some (.cells #[.int .i64 t529, .int .i64 t530, .int .i64 t531, .int .i64 t532, .int .i64 t533, .int .i64 t534, .int .i64 t535, .int .i64 t536] 41 (0, 0))) := ⟨(by rw [hw]; exact (by (with_reducible repeat (first | refine blk_drewN ?_ _ | refine blk_drew ?_ | refine blk_alloc ?_ _)); refine blk_far ?_ NB538_563.out _; (with_reducible repeat (first | refine blk_drewN ?_ _ | refine blk_drew ?_ | refine blk_alloc ?_ _)); refine blk_far ?_ NB538_563.out _; (with_reducible repeat (first | refine blk_drewN ?_ _ | refine blk_drew ?_ | refine blk_alloc ?_ _)); refine blk_far ?_ NB538_563.out _; (with_reducible repeat (first | refine blk_drewN ?_ _ | refine blk_drew ?_ | refine blk_alloc ?_ _)); exact BK538.out))⟩; have n2_ : Aside0 (w105.heap[gb548]? = some (.cells #[.int .i64 t539, .int .i64 t540, .int .i64 t541, .int .i64 t542, .int .i64 t543, .int .i64 t544, .int .i64 t545, .int .i64 t546] 41 (0, 0))) := ⟨(by rw [hw]; exact (by (with_reducible repeat (first | refine blk_drewN ?_ _ | refine blk_drew ?_ | refine blk_alloc ?_ _)); refine blk_far ?_ NB548_563.out _; (with_reducible repeat (first | refine blk_drewN ?_ _ | refine blk_drew ?_ | refine blk_alloc ?_ _)); refine blk_far ?_ NB548_563.out _; (with_reducible repeat (first | refine blk_drewN ?_ _ | refine blk_drew ?_ | refine blk_alloc ?_ _)); refine blk_far ?_ NB548_563.out _; (with_reducible repeat (first | refine blk_drewN ?_ _ | refine blk_drew ?_ | refine blk_alloc ?_ _)); exact BK548.out))⟩; have n3_ : Aside0 (w105.heap[gb558]? = some (.cells #[.int .i64 t549, .int .i64 t550, .int .i64 t551, .int .i64 t552, .int .i64 t553, .int .i64 t554, .int .i64 t555, .int .i64 t556] 41 (0, 0))) := ⟨(by rw [hw]; exact (by (with_reducible repeat (first | refine blk_drewN ?_ _ | refine blk_drew ?_ | refine blk_alloc ?_ _)); refine blk_far ?_ NB558_563.out _; (with_reducible repeat (first | refine blk_drewN ?_ _ | refine blk_drew ?_ | refine blk_alloc ?_ _)); refine blk_far ?_ NB558_563.out _; (with_reducible repeat (first | refine blk_drewN ?_ _ | refine blk_drew ?_ | refine blk_alloc ?_ _)); refine blk_far ?_ NB558_563.out _; (with_reducible repeat (first | refine blk_drewN ?_ _ | refine blk_drew ?_ | refine blk_alloc ?_ _)); exact BK558.out))⟩; have n4_ : Aside0 (w105.heap[gb563]? = some (.cells #[.int .i64 0, .int .i64 2, .slice Ao99 y560.length co99] 25 (0, 0))) := ⟨(by rw [hw]; exact (by (with_reducible repeat (first | refine blk_drewN ?_ _ | refine blk_drew ?_ | refine blk_alloc ?_ _)); refine blk_put (cs := #[.int .i64 0, .int .i64 2, .slice none 0 0]) ?_ 2 _ rfl; (with_reducible repeat (first | refine blk_drewN ?_ _ | refine blk_drew ?_ | refine blk_alloc ?_ _)); refine blk_put (cs := #[.int .i64 0, .int .i64 0, .slice none 0 0]) ?_ 1 _ rfl; (with_reducible repeat (first | refine blk_drewN ?_ _ | refine blk_drew ?_ | refine blk_alloc ?_ _)); refine blk_put (cs := #[.int .i64 0, .int .i64 0, .slice none 0 0]) ?_ 0 _ rfl; (with_reducible repeat (first | refine blk_drewN ?_ _ | refine blk_drew ?_ | refine blk_alloc ?_ _)); exact BK563.out))⟩; have n5_ : Aside0 (Below w.heap.size w w105) := ⟨(by rw [hw]; exact (by repeat (first | (with_reducible first | exact HB.out | apply below_alloc | apply pw_below_drewN | apply below_drew1 | refine below_set ?_ GE538.out | refine below_set ?_ GE548.out | refine below_set ?_ GE558.out | refine below_set ?_ GE563.out) | exact HB.out)))⟩; clear hw; clear HO562; clear BK538; clear BK548; clear BK558; clear BK563; clear HB; have HO562 := n0_; have BK538 := n1_; have BK548 := n2_; have BK558 := n3_; have BK563 := n4_; have HB := n5_; clear n0_ n1_ n2_ n3_ n4_ n5_; have hnb106 := NB538_548.out; have hnc106 := NB548_538.out; have hnb107 := NB538_558.out; have hnc107 := NB558_538.out; have hcz108_0 : w105.cell? ⟨gb538, 0, none⟩ = some (.int .i64 t529) := (blk_cell BK538.out 0).trans rfl; have hcz108_1 : w105.cell? ⟨gb538, 1, none⟩ = some (.int .i64 t530) := (blk_cell BK538.out 1).trans rfl; have hcz108_2 : w105.cell? ⟨gb538, 2, none⟩ = some (.int .i64 t531) := (blk_cell BK538.out 2).trans rfl; have hcz108_3 : w105.cell? ⟨gb538, 3, none⟩ = some (.int .i64 t532) := (blk_cell BK538.out 3).trans rfl; have hcz108_4 : w105.cell? ⟨gb538, 4, none⟩ = some (.int .i64 t533) := (blk_cell BK538.out 4).trans rfl; have hcz108_5 : w105.cell? ⟨gb538, 5, none⟩ = some (.int .i64 t534) := (blk_cell BK538.out 5).trans rfl; have hcz108_6 : w105.cell? ⟨gb538, 6, none⟩ = some (.int .i64 t535) := (blk_cell BK538.out 6).trans rfl; have hcz108_7 : w105.cell? ⟨gb538, 7, none⟩ = some (.int .i64 t536) := (blk_cell BK538.out 7).trans rfl; have hfz108_0 := blk_frozen BK538.out 0; have hfz108_1 := blk_frozen BK538.out 1; have hfz108_2 := blk_frozen BK538.out 2; have hfz108_3 := blk_frozen BK538.out 3; have hfz108_4 := blk_frozen BK538.out 4; have hfz108_5 := blk_frozen BK538.out 5; have hfz108_6 := blk_frozen BK538.out 6; have hfz108_7 := blk_frozen BK538.out 7; have hcz109_0 : w105.cell? ⟨gb563, 0, none⟩ = some (.int .i64 0) := (blk_cell BK563.out 0).trans rfl; have hcz109_1 : w105.cell? ⟨gb563, 1, none⟩ = some (.int .i64 2) := (blk_cell BK563.out 1).trans rfl; have hcz109_2 : w105.cell? ⟨gb563, 2, none⟩ = some (.slice Ao99 y560.length co99) := (blk_cell BK563.out 2).trans rfl; have hfz109_0 := blk_frozen BK563.out 0; have hfz109_1 := blk_frozen BK563.out 1; have hfz109_2 := blk_frozen BK563.out 2; have p91 : 0 ≤ (t532 : Int) := of_decide_eq_true (by first | (with_reducible assumption) | assumption); have q91 : (t532 : Int) < ((y560.length : Int) : Int) := of_decide_eq_true (by first | (with_reducible assumption) | assumption); obtain ⟨go91, co91, eo91, gb91, gl91, cl91, HG91⟩ := Kd.R_form HO562.out (by omega); (first | cases eo91 | (injection eo91 with ea_ en_ ec_; (first | subst ea_ | (injection ea_ with ea_; subst ea_)); subst ec_; clear en_)); have GB91 := Aside0.mk gb91; have GG91 := Aside0.mk HG91; clear gb91 gl91 HG91; obtain ⟨hx91_0, hf91_0⟩ := Kd.R_celln 0 HO562.out (t532 : Int) p91 q91; replace p91 := eq_true p91; replace q91 := eq_true q91; obtain ⟨hy110_, hz110_⟩ := Kd.R_celln 0 HO562.out (t532 : Int) (of_decide_eq_true (by first | (with_reducible assumption) | assumption)) (of_decide_eq_true (by first | (with_reducible assumption) | assumption)); have HP110 := Kd.R_putg HO562.out (t532 : Int) t533) | ((with_reducible refine gate_store (t := 3) (p := 114) rfl ?_); refine store_event (t := 3) (p := 114) (v := ?vo_w111) (w1 := (w105.setCell ⟨go91, (t532 : Int).toNat, none⟩ (.int .i64 t533))) ?hg ?ho ?hn ?hr ?_; (case ho => rfl); (case hg => rfl); (case hn => rfl); (case hr => first | (go_simp; done) | (go_simp; rfl)); intro w111 hw; have hg : w105.grownBy w111 (some go91) := (by rw [hw]; exact HP110.2); have hp_ : Kd.R (Kd.int .i64) 3 w111 w.heap.size (fun _ => True) (.slice (some ⟨go91, 0, none⟩) y560.length co99) y564 := (by rw [hw, Ny564.out]; exact HP110.1); clear HP110; have n0_ := Aside0.mk (blk_grown (g := gb538) (o := .cells #[.int .i64 t529, .int .i64 t530, .int .i64 t531, .int .i64 t532, .int .i64 t533, .int .i64 t534, .int .i64 t535, .int .i64 t536] 41 (0, 0)) (by (with_reducible repeat (first | refine blk_drewN ?_ _ | refine blk_drew ?_ | refine blk_alloc ?_ _)); exact BK538.out) hg (Kd.R_ne HO562.out BK538.out (by decide))); have n1_ := Aside0.mk (blk_grown (g := gb548) (o := .cells #[.int .i64 t539, .int .i64 t540, .int .i64 t541, .int .i64 t542, .int .i64 t543, .int .i64 t544, .int .i64 t545, .int .i64 t546] 41 (0, 0)) (by (with_reducible repeat (first | refine blk_drewN ?_ _ | refine blk_drew ?_ | refine blk_alloc ?_ _)); exact BK548.out) hg (Kd.R_ne HO562.out BK548.out (by decide))); have n2_ := Aside0.mk (blk_grown (g := gb558) (o := .cells #[.int .i64 t549, .int .i64 t550, .int .i64 t551, .int .i64 t552, .int .i64 t553, .int .i64 t554, .int .i64 t555, .int .i64 t556] 41 (0, 0)) (by (with_reducible repeat (first | refine blk_drewN ?_ _ | refine blk_drew ?_ | refine blk_alloc ?_ _)); exact BK558.out) hg (Kd.R_ne HO562.out BK558.out (by decide))); have n3_ := Aside0.mk (hp_); have n4_ := Aside0.mk (blk_grown (g := gb563) (o := .cells #[.int .i64 0, .int .i64 2, .slice (some ⟨go91, 0, none⟩) y560.length co99] 25 (0, 0)) (by (with_reducible repeat (first | refine blk_drewN ?_ _ | refine blk_drew ?_ | refine blk_alloc ?_ _)); exact BK563.out) hg (Kd.R_ne HO562.out BK563.out (by decide))); have n5_ := Aside0.mk ((by rw [hw]; exact below_set (HB.out) GB91.out : Below w.heap.size w w111)); clear BK538; clear BK548; clear BK558; clear HO562; clear BK563; clear HB; have BK538 := n0_; have BK548 := n1_; have BK558 := n2_; have HO562 := n3_; have BK563 := n4_; have HB := n5_; clear n0_ n1_ n2_ n3_ n4_ n5_; clear hg hw hp_; have hcz112_0 : w111.cell? ⟨gb563, 0, none⟩ = some (.int .i64 0) := (blk_cell BK563.out 0).trans rfl; have hcz112_1 : w111.cell? ⟨gb563, 1, none⟩ = some (.int .i64 2) := (blk_cell BK563.out 1).trans rfl; have hcz112_2 : w111.cell? ⟨gb563, 2, none⟩ = some (.slice (some ⟨go91, 0, none⟩) y560.length co99) := (blk_cell BK563.out 2).trans rfl; have hfz112_0 := blk_frozen BK563.out 0; have hfz112_1 := blk_frozen BK563.out 1; have hfz112_2 := blk_frozen BK563.out 2; have hcz113_0 : w111.cell? ⟨gb538, 0, none⟩ = some (.int .i64 t529) := (blk_cell BK538.out 0).trans rfl; have hcz113_1 : w111.cell? ⟨gb538, 1, none⟩ = some (.int .i64 t530) := (blk_cell BK538.out 1).trans rfl; have hcz113_2 : w111.cell? ⟨gb538, 2, none⟩ = some (.int .i64 t531) := (blk_cell BK538.out 2).trans rfl; have hcz113_3 : w111.cell? ⟨gb538, 3, none⟩ = some (.int .i64 t532) := (blk_cell BK538.out 3).trans rfl; have hcz113_4 : w111.cell? ⟨gb538, 4, none⟩ = some (.int .i64 t533) := (blk_cell BK538.out 4).trans rfl; have hcz113_5 : w111.cell? ⟨gb538, 5, none⟩ = some (.int .i64 t534) := (blk_cell BK538.out 5).trans rfl; have hcz113_6 : w111.cell? ⟨gb538, 6, none⟩ = some (.int .i64 t535) := (blk_cell BK538.out 6).trans rfl; have hcz113_7 : w111.cell? ⟨gb538, 7, none⟩ = some (.int .i64 t536) := (blk_cell BK538.out 7).trans rfl; have hfz113_0 := blk_frozen BK538.out 0; have hfz113_1 := blk_frozen BK538.out 1; have hfz113_2 := blk_frozen BK538.out 2; have hfz113_3 := blk_frozen BK538.out 3; have hfz113_4 := blk_frozen BK538.out 4; have hfz113_5 := blk_frozen BK538.out 5; have hfz113_6 := blk_frozen BK538.out 6; have hfz113_7 := blk_frozen BK538.out 7) | ((with_reducible refine gate_callee (f := 42) rfl ?_); refine goesL_ (some 123) rfl rfl Try.func42 (by kernel_rfl) rfl #[.agg #[.int .i64 0, .int .i64 2, .slice (some ⟨go91, 0, none⟩) y564.length co99], .agg #[.int .i64 t529, .int .i64 t530, .int .i64 t531, .int .i64 t532, .int .i64 t533, .int .i64 t534, .int .i64 t535, .int .i64 t536], .int .i64 1] rfl (by (try simp only [List.map_toArray, List.map_cons, List.map_nil]); first | done | (rw [show y564.length = y560.length from (Kd.R_reads' HO562.out).1.symm] <;> rfl) | rfl | (simp only [List.length_drop, List.length_take]; rfl)) ?_; (with_reducible refine (impl_RecDo.calls kj38 0 2 _ _ y564 t529 t530 t531 t532 t533 t534 t535 t536 1 t565 t566 t567 true _ ?side1 ?side2 A92.out).mono ?_); (case side1 => repeat (first | exact (Kd.R_reads' HO562.out).2.2 | (with_reducible refine Kd.C_alloc ?_ _) | (with_reducible refine Kd.C_drewN ?_ _) | (with_reducible refine Kd.C_drew ?_))); (case side2 => rw [show y564.length = y560.length from (Kd.R_reads' HO562.out).1.symm]; exact (Kd.R_reads' HO562.out).2.1); rintro e w114 ⟨v568, rfl, ho0, hb⟩; refine ⟨_, rfl, ?_⟩; have n0_ := Aside0.mk (Kd.R_elder' (by (with_reducible repeat (first | apply Kd.R_alloc | apply Kd.R_drewN | apply Kd.R_drew)); exact HO562.out) (Kd.R_base ho0) hb); have n1_ := Aside0.mk (Kd.R_lower (Kd.R_new' ho0 (Kd.R_lt (by (with_reducible repeat (first | apply Kd.R_alloc | apply Kd.R_drewN | apply Kd.R_drew)); exact HO562.out))) (below_size (by repeat (first | (with_reducible first | exact HB.out | apply below_alloc | apply pw_below_drewN | apply below_drew1 | refine below_set ?_ GE538.out | refine below_set ?_ GE548.out | refine below_set ?_ GE558.out | refine below_set ?_ GE563.out) | exact HB.out)))); have n2_ := Aside0.mk (blk_below (g := gb538) (o := .cells #[.int .i64 t529, .int .i64 t530, .int .i64 t531, .int .i64 t532, .int .i64 t533, .int .i64 t534, .int .i64 t535, .int .i64 t536] 41 (0, 0)) (by (with_reducible repeat (first | refine blk_drewN ?_ _ | refine blk_drew ?_ | refine blk_alloc ?_ _)); exact BK538.out) hb); have n3_ := Aside0.mk (blk_below (g := gb548) (o := .cells #[.int .i64 t539, .int .i64 t540, .int .i64 t541, .int .i64 t542, .int .i64 t543, .int .i64 t544, .int .i64 t545, .int .i64 t546] 41 (0, 0)) (by (with_reducible repeat (first | refine blk_drewN ?_ _ | refine blk_drew ?_ | refine blk_alloc ?_ _)); exact BK548.out) hb); have n4_ := Aside0.mk (blk_below (g := gb558) (o := .cells #[.int .i64 t549, .int .i64 t550, .int .i64 t551, .int .i64 t552, .int .i64 t553, .int .i64 t554, .int .i64 t555, .int .i64 t556] 41 (0, 0)) (by (with_reducible repeat (first | refine blk_drewN ?_ _ | refine blk_drew ?_ | refine blk_alloc ?_ _)); exact BK558.out) hb); have n5_ := Aside0.mk (blk_below (g := gb563) (o := .cells #[.int .i64 0, .int .i64 2, .slice (some ⟨go91, 0, none⟩) y560.length co99] 25 (0, 0)) (by (with_reducible repeat (first | refine blk_drewN ?_ _ | refine blk_drew ?_ | refine blk_alloc ?_ _)); exact BK563.out) hb); have n6_ := Aside0.mk (below_step (by repeat (first | (with_reducible first | exact HB.out | apply below_alloc | apply pw_below_drewN | apply below_drew1 | refine below_set ?_ GE538.out | refine below_set ?_ GE548.out | refine below_set ?_ GE558.out | refine below_set ?_ GE563.out) | exact HB.out)) hb); clear HO562; clear BK538; clear BK548; clear BK558; clear BK563; clear HB; have HO562 := n0_; have HO569 := n1_; have BK538 := n2_; have BK548 := n3_; have BK558 := n4_; have BK563 := n5_; have HB := n6_; clear n0_ n1_ n2_ n3_ n4_ n5_ n6_; (try clear hb); (try clear hb2); (try clear hk); (try clear hi); (try clear ho0)) | ((with_reducible refine gate_dst (N := 10) rfl ?_); refine box_event ?hg (N := 10) ?hd (cs := #[.int .i64 0, .int .i64 0, .slice none 0 0]) (t := 25) ?hr ?_; (case hd => rfl); (case hg => rfl); (case hr => first | (go_simp; done) | (go_simp; rfl)); intro gb571 hg w115 hbox hb; have n0_ := Aside0.mk (Kd.R_below (by (with_reducible repeat (first | apply Kd.R_alloc | apply Kd.R_drewN | apply Kd.R_drew)); exact HO562.out) hb); have n1_ := Aside0.mk (Kd.R_below (by (with_reducible repeat (first | apply Kd.R_alloc | apply Kd.R_drewN | apply Kd.R_drew)); exact HO569.out) hb); have n2_ := Aside0.mk (blk_below (g := gb538) (o := .cells #[.int .i64 t529, .int .i64 t530, .int .i64 t531, .int .i64 t532, .int .i64 t533, .int .i64 t534, .int .i64 t535, .int .i64 t536] 41 (0, 0)) (by (with_reducible repeat (first | refine blk_drewN ?_ _ | refine blk_drew ?_ | refine blk_alloc ?_ _)); exact BK538.out) hb); have n3_ := Aside0.mk (blk_below (g := gb548) (o := .cells #[.int .i64 t539, .int .i64 t540, .int .i64 t541, .int .i64 t542, .int .i64 t543, .int .i64 t544, .int .i64 t545, .int .i64 t546] 41 (0, 0)) (by (with_reducible repeat (first | refine blk_drewN ?_ _ | refine blk_drew ?_ | refine blk_alloc ?_ _)); exact BK548.out) hb); have n4_ := Aside0.mk (blk_below (g := gb558) (o := .cells #[.int .i64 t549, .int .i64 t550, .int .i64 t551, .int .i64 t552, .int .i64 t553, .int .i64 t554, .int .i64 t555, .int .i64 t556] 41 (0, 0)) (by (with_reducible repeat (first | refine blk_drewN ?_ _ | refine blk_drew ?_ | refine blk_alloc ?_ _)); exact BK558.out) hb); have n5_ := Aside0.mk (blk_below (g := gb563) (o := .cells #[.int .i64 0, .int .i64 2, .slice (some ⟨go91, 0, none⟩) y560.length co99] 25 (0, 0)) (by (with_reducible repeat (first | refine blk_drewN ?_ _ | refine blk_drew ?_ | refine blk_alloc ?_ _)); exact BK563.out) hb); have n6_ := Aside0.mk (below_step (by repeat (first | (with_reducible first | exact HB.out | apply below_alloc | apply pw_below_drewN | apply below_drew1 | refine below_set ?_ GE538.out | refine below_set ?_ GE548.out | refine below_set ?_ GE558.out | refine below_set ?_ GE563.out) | exact HB.out)) hb); have n7_ := Aside0.mk (hbox); have n8_ := Aside0.mk ((by rw [hg]; exact (below_size (by repeat (first | (with_reducible first | exact HB.out | apply below_alloc | apply pw_below_drewN | apply below_drew1 | refine below_set ?_ GE538.out | refine below_set ?_ GE548.out | refine below_set ?_ GE558.out | refine below_set ?_ GE563.out) | exact HB.out))) : w.heap.size ≤ gb571)); have n9_ := Aside0.mk ((by rw [hg]; exact (below_size (by repeat (first | (with_reducible first | exact HB.out | apply below_alloc | apply pw_below_drewN | apply below_drew1 | refine below_set ?_ GE538.out | refine below_set ?_ GE548.out | refine below_set ?_ GE558.out | refine below_set ?_ GE563.out) | exact HB.out))) : w.heap.size ≤ gb571)); have n10_ := Aside0.mk ((by rw [hg]; exact Nat.ne_of_lt (blk_lt (g := gb538) (o := .cells #[.int .i64 t529, .int .i64 t530, .int .i64 t531, .int .i64 t532, .int .i64 t533, .int .i64 t534, .int .i64 t535, .int .i64 t536] 41 (0, 0)) (by (with_reducible repeat (first | refine blk_drewN ?_ _ | refine blk_drew ?_ | refine blk_alloc ?_ _)); exact BK538.out)) : gb538 ≠ gb571)); have n11_ := Aside0.mk ((by rw [hg]; exact Nat.ne_of_gt (blk_lt (g := gb538) (o := .cells #[.int .i64 t529, .int .i64 t530, .int .i64 t531, .int .i64 t532, .int .i64 t533, .int .i64 t534, .int .i64 t535, .int .i64 t536] 41 (0, 0)) (by (with_reducible repeat (first | refine blk_drewN ?_ _ | refine blk_drew ?_ | refine blk_alloc ?_ _)); exact BK538.out)) : gb571 ≠ gb538)); have n12_ := Aside0.mk ((by rw [hg]; exact Nat.ne_of_lt (blk_lt (g := gb548) (o := .cells #[.int .i64 t539, .int .i64 t540, .int .i64 t541, .int .i64 t542, .int .i64 t543, .int .i64 t544, .int .i64 t545, .int .i64 t546] 41 (0, 0)) (by (with_reducible repeat (first | refine blk_drewN ?_ _ | refine blk_drew ?_ | refine blk_alloc ?_ _)); exact BK548.out)) : gb548 ≠ gb571)); have n13_ := Aside0.mk ((by rw [hg]; exact Nat.ne_of_gt (blk_lt (g := gb548) (o := .cells #[.int .i64 t539, .int .i64 t540, .int .i64 t541, .int .i64 t542, .int .i64 t543, .int .i64 t544, .int .i64 t545, .int .i64 t546] 41 (0, 0)) (by (with_reducible repeat (first | refine blk_drewN ?_ _ | refine blk_drew ?_ | refine blk_alloc ?_ _)); exact BK548.out)) : gb571 ≠ gb548)); have n14_ := Aside0.mk ((by rw [hg]; exact Nat.ne_of_lt (blk_lt (g := gb558) (o := .cells #[.int .i64 t549, .int .i64 t550, .int .i64 t551, .int .i64 t552, .int .i64 t553, .int .i64 t554, .int .i64 t555, .int .i64 t556] 41 (0, 0)) (by (with_reducible repeat (first | refine blk_drewN ?_ _ | refine blk_drew ?_ | refine blk_alloc ?_ _)); exact BK558.out)) : gb558 ≠ gb571)); have n15_ := Aside0.mk ((by rw [hg]; exact Nat.ne_of_gt (blk_lt (g := gb558) (o := .cells #[.int .i64 t549, .int .i64 t550, .int .i64 t551, .int .i64 t552, .int .i64 t553, .int .i64 t554, .int .i64 t555, .int .i64 t556] 41 (0, 0)) (by (with_reducible repeat (first | refine blk_drewN ?_ _ | refine blk_drew ?_ | refine blk_alloc ?_ _)); exact BK558.out)) : gb571 ≠ gb558)); have n16_ := Aside0.mk ((by rw [hg]; exact Nat.ne_of_lt (blk_lt (g := gb563) (o := .cells #[.int .i64 0, .int .i64 2, .slice (some ⟨go91, 0, none⟩) y560.length co99] 25 (0, 0)) (by (with_reducible repeat (first | refine blk_drewN ?_ _ | refine blk_drew ?_ | refine blk_alloc ?_ _)); exact BK563.out)) : gb563 ≠ gb571)); have n17_ := Aside0.mk ((by rw [hg]; exact Nat.ne_of_gt (blk_lt (g := gb563) (o := .cells #[.int .i64 0, .int .i64 2, .slice (some ⟨go91, 0, none⟩) y560.length co99] 25 (0, 0)) (by (with_reducible repeat (first | refine blk_drewN ?_ _ | refine blk_drew ?_ | refine blk_alloc ?_ _)); exact BK563.out)) : gb571 ≠ gb563)); clear HO562; clear HO569; clear BK538; clear BK548; clear BK558; clear BK563; clear HB; have HO562 := n0_; have HO569 := n1_; have BK538 := n2_; have BK548 := n3_; have BK558 := n4_; have BK563 := n5_; have HB := n6_; have BK571 := n7_; have GW571 := n8_; have GE571 := n9_; have NB538_571 := n10_; have NB571_538 := n11_; have NB548_571 := n12_; have NB571_548 := n13_; have NB558_571 := n14_; have NB571_558 := n15_; have NB563_571 := n16_; have NB571_563 := n17_; clear n0_ n1_ n2_ n3_ n4_ n5_ n6_ n7_ n8_ n9_ n10_ n11_ n12_ n13_ n14_ n15_ n16_ n17_; clear hb hbox hg; have hnb116 := NB571_538.out; have hnc116 := NB538_571.out; have hnb117 := NB571_548.out; have hnc117 := NB548_571.out; have hnb118 := NB571_558.out; have hnc118 := NB558_571.out; have hnb119 := NB571_563.out; have hnc119 := NB563_571.out; have hcz120_0 : w115.cell? ⟨gb571, 0, none⟩ = some (.int .i64 0) := (blk_cell BK571.out 0).trans rfl; have hcz120_1 : w115.cell? ⟨gb571, 1, none⟩ = some (.int .i64 0) := (blk_cell BK571.out 1).trans rfl; have hcz120_2 : w115.cell? ⟨gb571, 2, none⟩ = some (.slice none 0 0) := (blk_cell BK571.out 2).trans rfl; have hfz120_0 := blk_frozen BK571.out 0; have hfz120_1 := blk_frozen BK571.out 1; have hfz120_2 := blk_frozen BK571.out 2; obtain ⟨Ao121, co121, eo121⟩ := Kd.R_slice HO569.out; subst eo121; have hnb122 := NB558_548.out; have hnc122 := NB548_558.out; have hcz123_0 : w115.cell? ⟨gb558, 0, none⟩ = some (.int .i64 t549) := (blk_cell BK558.out 0).trans rfl; have hcz123_1 : w115.cell? ⟨gb558, 1, none⟩ = some (.int .i64 t550) := (blk_cell BK558.out 1).trans rfl; have hcz123_2 : w115.cell? ⟨gb558, 2, none⟩ = some (.int .i64 t551) := (blk_cell BK558.out 2).trans rfl; have hcz123_3 : w115.cell? ⟨gb558, 3, none⟩ = some (.int .i64 t552) := (blk_cell BK558.out 3).trans rfl; have hcz123_4 : w115.cell? ⟨gb558, 4, none⟩ = some (.int .i64 t553) := (blk_cell BK558.out 4).trans rfl; have hcz123_5 : w115.cell? ⟨gb558, 5, none⟩ = some (.int .i64 t554) := (blk_cell BK558.out 5).trans rfl; have hcz123_6 : w115.cell? ⟨gb558, 6, none⟩ = some (.int .i64 t555) := (blk_cell BK558.out 6).trans rfl; have hcz123_7 : w115.cell? ⟨gb558, 7, none⟩ = some (.int .i64 t556) := (blk_cell BK558.out 7).trans rfl; have hfz123_0 := blk_frozen BK558.out 0; have hfz123_1 := blk_frozen BK558.out 1; have hfz123_2 := blk_frozen BK558.out 2; have hfz123_3 := blk_frozen BK558.out 3; have hfz123_4 := blk_frozen BK558.out 4; have hfz123_5 := blk_frozen BK558.out 5; have hfz123_6 := blk_frozen BK558.out 6; have hfz123_7 := blk_frozen BK558.out 7) | ((with_reducible refine gate_callee (f := 42) rfl ?_); refine goesL_ (some 129) rfl rfl Try.func42 (by kernel_rfl) rfl #[.agg #[.int .i64 t565, .int .i64 t566, .slice Ao121 t567.length co121], .agg #[.int .i64 t549, .int .i64 t550, .int .i64 t551, .int .i64 t552, .int .i64 t553, .int .i64 t554, .int .i64 t555, .int .i64 t556], .int .i64 2] rfl (by (try simp only [List.map_toArray, List.map_cons, List.map_nil]); first | done | rfl | (simp only [List.length_drop, List.length_take]; rfl)) ?_; (with_reducible refine (impl_RecDo.calls kj38 t565 t566 _ _ t567 t549 t550 t551 t552 t553 t554 t555 t556 2 t572 t573 t574 true _ ?side1 ?side2 A93.out).mono ?_); (case side1 => refine (Kd.R_reads' (e := 3) (base := w.heap.size) (ok := fun k_ => (True ∧ some k_ ≠ (.slice (some ⟨go91, 0, none⟩) y560.length co99 : Value).ownBlock)) (n := t567.length) (c := co121) ?_).2.2; exact (by (with_reducible repeat (first | apply Kd.R_alloc | apply Kd.R_drewN | apply Kd.R_drew)); exact (Kd.R_mono (Kd.R_far (p := ⟨gb571, 2, none⟩) (Kd.R_far (p := ⟨gb571, 1, none⟩) (Kd.R_far (p := ⟨gb571, 0, none⟩) (Kd.R_types HO569.out BK571.out (by decide)) (fun _ hk => hk.2) (.int .i64 t565)) (fun _ hk => hk.2) (.int .i64 t566)) (fun _ hk => hk.2) (.slice Ao121 t567.length co121)) (fun _ h_ => h_.1)))); (case side2 => exact (Kd.R_reads' HO569.out).2.1); rintro e w124 ⟨v575, rfl, ho0, hb⟩; refine ⟨_, rfl, ?_⟩; have n0_ := Aside0.mk (Kd.R_elder' (by (with_reducible repeat (first | apply Kd.R_alloc | apply Kd.R_drewN | apply Kd.R_drew)); exact (Kd.R_mono (Kd.R_far (p := ⟨gb571, 2, none⟩) (Kd.R_far (p := ⟨gb571, 1, none⟩) (Kd.R_far (p := ⟨gb571, 0, none⟩) (Kd.R_types HO562.out BK571.out (by decide)) (fun _ hk => hk.2) (.int .i64 t565)) (fun _ hk => hk.2) (.int .i64 t566)) (fun _ hk => hk.2) (.slice Ao121 t567.length co121)) (fun _ h_ => h_.1))) (Kd.R_base ho0) hb); have n1_ := Aside0.mk (Kd.R_elder' (by (with_reducible repeat (first | apply Kd.R_alloc | apply Kd.R_drewN | apply Kd.R_drew)); exact (Kd.R_mono (Kd.R_far (p := ⟨gb571, 2, none⟩) (Kd.R_far (p := ⟨gb571, 1, none⟩) (Kd.R_far (p := ⟨gb571, 0, none⟩) (Kd.R_types HO569.out BK571.out (by decide)) (fun _ hk => hk.2) (.int .i64 t565)) (fun _ hk => hk.2) (.int .i64 t566)) (fun _ hk => hk.2) (.slice Ao121 t567.length co121)) (fun _ h_ => h_.1))) (Kd.R_base ho0) hb); have n2_ := Aside0.mk (Kd.R_lower (Kd.R_new' (Kd.R_new' ho0 (Kd.R_lt (by (with_reducible repeat (first | apply Kd.R_alloc | apply Kd.R_drewN | apply Kd.R_drew)); exact (Kd.R_mono (Kd.R_far (p := ⟨gb571, 2, none⟩) (Kd.R_far (p := ⟨gb571, 1, none⟩) (Kd.R_far (p := ⟨gb571, 0, none⟩) (Kd.R_types HO562.out BK571.out (by decide)) (fun _ hk => hk.2) (.int .i64 t565)) (fun _ hk => hk.2) (.int .i64 t566)) (fun _ hk => hk.2) (.slice Ao121 t567.length co121)) (fun _ h_ => h_.1))))) (Kd.R_lt (by (with_reducible repeat (first | apply Kd.R_alloc | apply Kd.R_drewN | apply Kd.R_drew)); exact (Kd.R_mono (Kd.R_far (p := ⟨gb571, 2, none⟩) (Kd.R_far (p := ⟨gb571, 1, none⟩) (Kd.R_far (p := ⟨gb571, 0, none⟩) (Kd.R_types HO569.out BK571.out (by decide)) (fun _ hk => hk.2) (.int .i64 t565)) (fun _ hk => hk.2) (.int .i64 t566)) (fun _ hk => hk.2) (.slice Ao121 t567.length co121)) (fun _ h_ => h_.1))))) (below_size (by repeat (first | (with_reducible first | exact HB.out | apply below_alloc | apply pw_below_drewN | apply below_drew1 | refine below_set ?_ GE538.out | refine below_set ?_ GE548.out | refine below_set ?_ GE558.out | refine below_set ?_ GE563.out | refine below_set ?_ GE571.out) | exact HB.out)))); have n3_ := Aside0.mk (blk_below (g := gb538) (o := .cells #[.int .i64 t529, .int .i64 t530, .int .i64 t531, .int .i64 t532, .int .i64 t533, .int .i64 t534, .int .i64 t535, .int .i64 t536] 41 (0, 0)) (by (with_reducible repeat (first | refine blk_drewN ?_ _ | refine blk_drew ?_ | refine blk_alloc ?_ _)); refine blk_far ?_ NB538_571.out _; (with_reducible repeat (first | refine blk_drewN ?_ _ | refine blk_drew ?_ | refine blk_alloc ?_ _)); refine blk_far ?_ NB538_571.out _; (with_reducible repeat (first | refine blk_drewN ?_ _ | refine blk_drew ?_ | refine blk_alloc ?_ _)); refine blk_far ?_ NB538_571.out _; (with_reducible repeat (first | refine blk_drewN ?_ _ | refine blk_drew ?_ | refine blk_alloc ?_ _)); exact BK538.out) hb); have n4_ := Aside0.mk (blk_below (g := gb548) (o := .cells #[.int .i64 t539, .int .i64 t540, .int .i64 t541, .int .i64 t542, .int .i64 t543, .int .i64 t544, .int .i64 t545, .int .i64 t546] 41 (0, 0)) (by (with_reducible repeat (first | refine blk_drewN ?_ _ | refine blk_drew ?_ | refine blk_alloc ?_ _)); refine blk_far ?_ NB548_571.out _; (with_reducible repeat (first | refine blk_drewN ?_ _ | refine blk_drew ?_ | refine blk_alloc ?_ _)); refine blk_far ?_ NB548_571.out _; (with_reducible repeat (first | refine blk_drewN ?_ _ | refine blk_drew ?_ | refine blk_alloc ?_ _)); refine blk_far ?_ NB548_571.out _; (with_reducible repeat (first | refine blk_drewN ?_ _ | refine blk_drew ?_ | refine blk_alloc ?_ _)); exact BK548.out) hb); have n5_ := Aside0.mk (blk_below (g := gb558) (o := .cells #[.int .i64 t549, .int .i64 t550, .int .i64 t551, .int .i64 t552, .int .i64 t553, .int .i64 t554, .int .i64 t555, .int .i64 t556] 41 (0, 0)) (by (with_reducible repeat (first | refine blk_drewN ?_ _ | refine blk_drew ?_ | refine blk_alloc ?_ _)); refine blk_far ?_ NB558_571.out _; (with_reducible repeat (first | refine blk_drewN ?_ _ | refine blk_drew ?_ | refine blk_alloc ?_ _)); refine blk_far ?_ NB558_571.out _; (with_reducible repeat (first | refine blk_drewN ?_ _ | refine blk_drew ?_ | refine blk_alloc ?_ _)); refine blk_far ?_ NB558_571.out _; (with_reducible repeat (first | refine blk_drewN ?_ _ | refine blk_drew ?_ | refine blk_alloc ?_ _)); exact BK558.out) hb); have n6_ := Aside0.mk (blk_below (g := gb563) (o := .cells #[.int .i64 0, .int .i64 2, .slice (some ⟨go91, 0, none⟩) y560.length co99] 25 (0, 0)) (by (with_reducible repeat (first | refine blk_drewN ?_ _ | refine blk_drew ?_ | refine blk_alloc ?_ _)); refine blk_far ?_ NB563_571.out _; (with_reducible repeat (first | refine blk_drewN ?_ _ | refine blk_drew ?_ | refine blk_alloc ?_ _)); refine blk_far ?_ NB563_571.out _; (with_reducible repeat (first | refine blk_drewN ?_ _ | refine blk_drew ?_ | refine blk_alloc ?_ _)); refine blk_far ?_ NB563_571.out _; (with_reducible repeat (first | refine blk_drewN ?_ _ | refine blk_drew ?_ | refine blk_alloc ?_ _)); exact BK563.out) hb); have n7_ := Aside0.mk (blk_below (g := gb571) (o := .cells #[.int .i64 t565, .int .i64 t566, .slice Ao121 t567.length co121] 25 (0, 0)) (by (with_reducible repeat (first | refine blk_drewN ?_ _ | refine blk_drew ?_ | refine blk_alloc ?_ _)); refine blk_put (cs := #[.int .i64 t565, .int .i64 t566, .slice none 0 0]) ?_ 2 _ rfl; (with_reducible repeat (first | refine blk_drewN ?_ _ | refine blk_drew ?_ | refine blk_alloc ?_ _)); refine blk_put (cs := #[.int .i64 t565, .int .i64 0, .slice none 0 0]) ?_ 1 _ rfl; (with_reducible repeat (first | refine blk_drewN ?_ _ | refine blk_drew ?_ | refine blk_alloc ?_ _)); refine blk_put (cs := #[.int .i64 0, .int .i64 0, .slice none 0 0]) ?_ 0 _ rfl; (with_reducible repeat (first | refine blk_drewN ?_ _ | refine blk_drew ?_ | refine blk_alloc ?_ _)); exact BK571.out) hb); have n8_ := Aside0.mk (below_step (by repeat (first | (with_reducible first | exact HB.out | apply below_alloc | apply pw_below_drewN | apply below_drew1 | refine below_set ?_ GE538.out | refine below_set ?_ GE548.out | refine below_set ?_ GE558.out | refine below_set ?_ GE563.out | refine below_set ?_ GE571.out) | exact HB.out)) hb); clear HO562; clear HO569; clear BK538; clear BK548; clear BK558; clear BK563; clear BK571; clear HB; have HO562 := n0_; have HO569 := n1_; have HO576 := n2_; have BK538 := n3_; have BK548 := n4_; have BK558 := n5_; have BK563 := n6_; have BK571 := n7_; have HB := n8_; clear n0_ n1_ n2_ n3_ n4_ n5_ n6_ n7_ n8_; (try clear hb); (try clear hb2); (try clear hk); (try clear hi); (try clear ho0)) | ((with_reducible refine gate_dst (N := 12) rfl ?_); refine box_event ?hg (N := 12) ?hd (cs := #[.int .i64 0, .int .i64 0, .slice none 0 0]) (t := 25) ?hr ?_; (case hd => rfl); (case hg => rfl); (case hr => first | (go_simp; done) | (go_simp; rfl)); intro gb578 hg w125 hbox hb; have n0_ := Aside0.mk (Kd.R_below (by (with_reducible repeat (first | apply Kd.R_alloc | apply Kd.R_drewN | apply Kd.R_drew)); exact HO562.out) hb); have n1_ := Aside0.mk (Kd.R_below (by (with_reducible repeat (first | apply Kd.R_alloc | apply Kd.R_drewN | apply Kd.R_drew)); exact HO569.out) hb); have n2_ := Aside0.mk (Kd.R_below (by (with_reducible repeat (first | apply Kd.R_alloc | apply Kd.R_drewN | apply Kd.R_drew)); exact HO576.out) hb); have n3_ := Aside0.mk (blk_below (g := gb538) (o := .cells #[.int .i64 t529, .int .i64 t530, .int .i64 t531, .int .i64 t532, .int .i64 t533, .int .i64 t534, .int .i64 t535, .int .i64 t536] 41 (0, 0)) (by (with_reducible repeat (first | refine blk_drewN ?_ _ | refine blk_drew ?_ | refine blk_alloc ?_ _)); exact BK538.out) hb); have n4_ := Aside0.mk (blk_below (g := gb548) (o := .cells #[.int .i64 t539, .int .i64 t540, .int .i64 t541, .int .i64 t542, .int .i64 t543, .int .i64 t544, .int .i64 t545, .int .i64 t546] 41 (0, 0)) (by (with_reducible repeat (first | refine blk_drewN ?_ _ | refine blk_drew ?_ | refine blk_alloc ?_ _)); exact BK548.out) hb); have n5_ := Aside0.mk (blk_below (g := gb558) (o := .cells #[.int .i64 t549, .int .i64 t550, .int .i64 t551, .int .i64 t552, .int .i64 t553, .int .i64 t554, .int .i64 t555, .int .i64 t556] 41 (0, 0)) (by (with_reducible repeat (first | refine blk_drewN ?_ _ | refine blk_drew ?_ | refine blk_alloc ?_ _)); exact BK558.out) hb); have n6_ := Aside0.mk (blk_below (g := gb563) (o := .cells #[.int .i64 0, .int .i64 2, .slice (some ⟨go91, 0, none⟩) y560.length co99] 25 (0, 0)) (by (with_reducible repeat (first | refine blk_drewN ?_ _ | refine blk_drew ?_ | refine blk_alloc ?_ _)); exact BK563.out) hb); have n7_ := Aside0.mk (blk_below (g := gb571) (o := .cells #[.int .i64 t565, .int .i64 t566, .slice Ao121 t567.length co121] 25 (0, 0)) (by (with_reducible repeat (first | refine blk_drewN ?_ _ | refine blk_drew ?_ | refine blk_alloc ?_ _)); exact BK571.out) hb); have n8_ := Aside0.mk (below_step (by repeat (first | (with_reducible first | exact HB.out | apply below_alloc | apply pw_below_drewN | apply below_drew1 | refine below_set ?_ GE538.out | refine below_set ?_ GE548.out | refine below_set ?_ GE558.out | refine below_set ?_ GE563.out | refine below_set ?_ GE571.out) | exact HB.out)) hb); have n9_ := Aside0.mk (hbox); have n10_ := Aside0.mk ((by rw [hg]; exact (below_size (by repeat (first | (with_reducible first | exact HB.out | apply below_alloc | apply pw_below_drewN | apply below_drew1 | refine below_set ?_ GE538.out | refine below_set ?_ GE548.out | refine below_set ?_ GE558.out | refine below_set ?_ GE563.out | refine below_set ?_ GE571.out) | exact HB.out))) : w.heap.size ≤ gb578)); have n11_ := Aside0.mk ((by rw [hg]; exact (below_size (by repeat (first | (with_reducible first | exact HB.out | apply below_alloc | apply pw_below_drewN | apply below_drew1 | refine below_set ?_ GE538.out | refine below_set ?_ GE548.out | refine below_set ?_ GE558.out | refine below_set ?_ GE563.out | refine below_set ?_ GE571.out) | exact HB.out))) : w.heap.size ≤ gb578)); have n12_ := Aside0.mk ((by rw [hg]; exact Nat.ne_of_lt (blk_lt (g := gb538) (o := .cells #[.int .i64 t529, .int .i64 t530, .int .i64 t531, .int .i64 t532, .int .i64 t533, .int .i64 t534, .int .i64 t535, .int .i64 t536] 41 (0, 0)) (by (with_reducible repeat (first | refine blk_drewN ?_ _ | refine blk_drew ?_ | refine blk_alloc ?_ _)); exact BK538.out)) : gb538 ≠ gb578)); have n13_ := Aside0.mk ((by rw [hg]; exact Nat.ne_of_gt (blk_lt (g := gb538) (o := .cells #[.int .i64 t529, .int .i64 t530, .int .i64 t531, .int .i64 t532, .int .i64 t533, .int .i64 t534, .int .i64 t535, .int .i64 t536] 41 (0, 0)) (by (with_reducible repeat (first | refine blk_drewN ?_ _ | refine blk_drew ?_ | refine blk_alloc ?_ _)); exact BK538.out)) : gb578 ≠ gb538)); have n14_ := Aside0.mk ((by rw [hg]; exact Nat.ne_of_lt (blk_lt (g := gb548) (o := .cells #[.int .i64 t539, .int .i64 t540, .int .i64 t541, .int .i64 t542, .int .i64 t543, .int .i64 t544, .int .i64 t545, .int .i64 t546] 41 (0, 0)) (by (with_reducible repeat (first | refine blk_drewN ?_ _ | refine blk_drew ?_ | refine blk_alloc ?_ _)); exact BK548.out)) : gb548 ≠ gb578)); have n15_ := Aside0.mk ((by rw [hg]; exact Nat.ne_of_gt (blk_lt (g := gb548) (o := .cells #[.int .i64 t539, .int .i64 t540, .int .i64 t541, .int .i64 t542, .int .i64 t543, .int .i64 t544, .int .i64 t545, .int .i64 t546] 41 (0, 0)) (by (with_reducible repeat (first | refine blk_drewN ?_ _ | refine blk_drew ?_ | refine blk_alloc ?_ _)); exact BK548.out)) : gb578 ≠ gb548)); have n16_ := Aside0.mk ((by rw [hg]; exact Nat.ne_of_lt (blk_lt (g := gb558) (o := .cells #[.int .i64 t549, .int .i64 t550, .int .i64 t551, .int .i64 t552, .int .i64 t553, .int .i64 t554, .int .i64 t555, .int .i64 t556] 41 (0, 0)) (by (with_reducible repeat (first | refine blk_drewN ?_ _ | refine blk_drew ?_ | refine blk_alloc ?_ _)); exact BK558.out)) : gb558 ≠ gb578)); have n17_ := Aside0.mk ((by rw [hg]; exact Nat.ne_of_gt (blk_lt (g := gb558) (o := .cells #[.int .i64 t549, .int .i64 t550, .int .i64 t551, .int .i64 t552, .int .i64 t553, .int .i64 t554, .int .i64 t555, .int .i64 t556] 41 (0, 0)) (by (with_reducible repeat (first | refine blk_drewN ?_ _ | refine blk_drew ?_ | refine blk_alloc ?_ _)); exact BK558.out)) : gb578 ≠ gb558)); have n18_ := Aside0.mk ((by rw [hg]; exact Nat.ne_of_lt (blk_lt (g := gb563) (o := .cells #[.int .i64 0, .int .i64 2, .slice (some ⟨go91, 0, none⟩) y560.length co99] 25 (0, 0)) (by (with_reducible repeat (first | refine blk_drewN ?_ _ | refine blk_drew ?_ | refine blk_alloc ?_ _)); exact BK563.out)) : gb563 ≠ gb578)); have n19_ := Aside0.mk ((by rw [hg]; exact Nat.ne_of_gt (blk_lt (g := gb563) (o := .cells #[.int .i64 0, .int .i64 2, .slice (some ⟨go91, 0, none⟩) y560.length co99] 25 (0, 0)) (by (with_reducible repeat (first | refine blk_drewN ?_ _ | refine blk_drew ?_ | refine blk_alloc ?_ _)); exact BK563.out)) : gb578 ≠ gb563)); have n20_ := Aside0.mk ((by rw [hg]; exact Nat.ne_of_lt (blk_lt (g := gb571) (o := .cells #[.int .i64 t565, .int .i64 t566, .slice Ao121 t567.length co121] 25 (0, 0)) (by (with_reducible repeat (first | refine blk_drewN ?_ _ | refine blk_drew ?_ | refine blk_alloc ?_ _)); exact BK571.out)) : gb571 ≠ gb578)); have n21_ := Aside0.mk ((by rw [hg]; exact Nat.ne_of_gt (blk_lt (g := gb571) (o := .cells #[.int .i64 t565, .int .i64 t566, .slice Ao121 t567.length co121] 25 (0, 0)) (by (with_reducible repeat (first | refine blk_drewN ?_ _ | refine blk_drew ?_ | refine blk_alloc ?_ _)); exact BK571.out)) : gb578 ≠ gb571)); clear HO562; clear HO569; clear HO576; clear BK538; clear BK548; clear BK558; clear BK563; clear BK571; clear HB; have HO562 := n0_; have HO569 := n1_; have HO576 := n2_; have BK538 := n3_; have BK548 := n4_; have BK558 := n5_; have BK563 := n6_; have BK571 := n7_; have HB := n8_; have BK578 := n9_; have GW578 := n10_; have GE578 := n11_; have NB538_578 := n12_; have NB578_538 := n13_; have NB548_578 := n14_; have NB578_548 := n15_; have NB558_578 := n16_; have NB578_558 := n17_; have NB563_578 := n18_; have NB578_563 := n19_; have NB571_578 := n20_; have NB578_571 := n21_; clear n0_ n1_ n2_ n3_ n4_ n5_ n6_ n7_ n8_ n9_ n10_ n11_ n12_ n13_ n14_ n15_ n16_ n17_ n18_ n19_ n20_ n21_; clear hb hbox hg; have hnb126 := NB578_538.out; have hnc126 := NB538_578.out; have hnb127 := NB578_548.out; have hnc127 := NB548_578.out; have hnb128 := NB578_558.out; have hnc128 := NB558_578.out; have hnb129 := NB578_563.out; have hnc129 := NB563_578.out; have hnb130 := NB578_571.out; have hnc130 := NB571_578.out; have hcz131_0 : w125.cell? ⟨gb578, 0, none⟩ = some (.int .i64 0) := (blk_cell BK578.out 0).trans rfl; have hcz131_1 : w125.cell? ⟨gb578, 1, none⟩ = some (.int .i64 0) := (blk_cell BK578.out 1).trans rfl; have hcz131_2 : w125.cell? ⟨gb578, 2, none⟩ = some (.slice none 0 0) := (blk_cell BK578.out 2).trans rfl; have hfz131_0 := blk_frozen BK578.out 0; have hfz131_1 := blk_frozen BK578.out 1; have hfz131_2 := blk_frozen BK578.out 2; obtain ⟨Ao132, co132, eo132⟩ := Kd.R_slice HO576.out; subst eo132; have hcz133_0 : w125.cell? ⟨gb563, 0, none⟩ = some (.int .i64 0) := (blk_cell BK563.out 0).trans rfl; have hcz133_1 : w125.cell? ⟨gb563, 1, none⟩ = some (.int .i64 2) := (blk_cell BK563.out 1).trans rfl; have hcz133_2 : w125.cell? ⟨gb563, 2, none⟩ = some (.slice (some ⟨go91, 0, none⟩) y560.length co99) := (blk_cell BK563.out 2).trans rfl; have hfz133_0 := blk_frozen BK563.out 0; have hfz133_1 := blk_frozen BK563.out 1; have hfz133_2 := blk_frozen BK563.out 2) | (go_at_call 43; refine calls_of_args (args' := #[.agg #[.int .i64 t572, .int .i64 t573, .slice Ao132 t574.length co132], .agg #[.int .i64 0, .int .i64 2, .slice (some ⟨go91, 0, none⟩) y564.length co99]]) (by first | (rw [show y564.length = y560.length from (Kd.R_reads' HO562.out).1.symm] <;> rfl) | rfl) ?_; (with_reducible refine (laws_ltHas.calls kj38 t572 t573 _ _ t574 0 2 _ _ y564 t579 _ ?side1 ?side2 ?side3 ?side4 A96.out).mono ?_); (case side1 => refine (Kd.R_reads' (e := 3) (base := w.heap.size) (ok := fun k_ => ((True ∧ some k_ ≠ (.slice (some ⟨go91, 0, none⟩) y560.length co99 : Value).ownBlock) ∧ some k_ ≠ (.slice Ao121 t567.length co121 : Value).ownBlock)) (n := t574.length) (c := co132) ?_).2.2; exact (by (with_reducible repeat (first | apply Kd.R_alloc | apply Kd.R_drewN | apply Kd.R_drew)); exact (Kd.R_mono (Kd.R_far (p := ⟨gb578, 2, none⟩) (Kd.R_far (p := ⟨gb578, 1, none⟩) (Kd.R_far (p := ⟨gb578, 0, none⟩) (Kd.R_types HO576.out BK578.out (by decide)) (fun _ hk => hk.2) (.int .i64 t572)) (fun _ hk => hk.2) (.int .i64 t573)) (fun _ hk => hk.2) (.slice Ao132 t574.length co132)) (fun _ h_ => h_.1)))); (case side2 => exact (Kd.R_reads' HO576.out).2.1); (case side3 => refine (Kd.R_reads' (e := 3) (base := w.heap.size) (ok := fun k_ => ((True ∧ some k_ ≠ (.slice Ao121 t567.length co121 : Value).ownBlock) ∧ some k_ ≠ (.slice Ao132 t574.length co132 : Value).ownBlock)) (n := y560.length) (c := co99) ?_).2.2; exact (by (with_reducible repeat (first | apply Kd.R_alloc | apply Kd.R_drewN | apply Kd.R_drew)); exact (Kd.R_mono (Kd.R_far (p := ⟨gb578, 2, none⟩) (Kd.R_far (p := ⟨gb578, 1, none⟩) (Kd.R_far (p := ⟨gb578, 0, none⟩) (Kd.R_types HO562.out BK578.out (by decide)) (fun _ hk => hk.2) (.int .i64 t572)) (fun _ hk => hk.2) (.int .i64 t573)) (fun _ hk => hk.2) (.slice Ao132 t574.length co132)) (fun _ h_ => h_.1)))); (case side4 => rw [show y564.length = y560.length from (Kd.R_reads' HO562.out).1.symm]; exact (Kd.R_reads' HO562.out).2.1); rintro e w134 ⟨rfl, hb⟩; have n0_ := Aside0.mk (Kd.R_below (by (with_reducible repeat (first | apply Kd.R_alloc | apply Kd.R_drewN | apply Kd.R_drew)); exact (Kd.R_mono (Kd.R_far (p := ⟨gb578, 2, none⟩) (Kd.R_far (p := ⟨gb578, 1, none⟩) (Kd.R_far (p := ⟨gb578, 0, none⟩) (Kd.R_types HO562.out BK578.out (by decide)) (fun _ hk => hk.2) (.int .i64 t572)) (fun _ hk => hk.2) (.int .i64 t573)) (fun _ hk => hk.2) (.slice Ao132 t574.length co132)) (fun _ h_ => h_.1))) hb); have n1_ := Aside0.mk (Kd.R_below (by (with_reducible repeat (first | apply Kd.R_alloc | apply Kd.R_drewN | apply Kd.R_drew)); exact (Kd.R_mono (Kd.R_far (p := ⟨gb578, 2, none⟩) (Kd.R_far (p := ⟨gb578, 1, none⟩) (Kd.R_far (p := ⟨gb578, 0, none⟩) (Kd.R_types HO569.out BK578.out (by decide)) (fun _ hk => hk.2) (.int .i64 t572)) (fun _ hk => hk.2) (.int .i64 t573)) (fun _ hk => hk.2) (.slice Ao132 t574.length co132)) (fun _ h_ => h_.1))) hb); have n2_ := Aside0.mk (Kd.R_below (by (with_reducible repeat (first | apply Kd.R_alloc | apply Kd.R_drewN | apply Kd.R_drew)); exact (Kd.R_mono (Kd.R_far (p := ⟨gb578, 2, none⟩) (Kd.R_far (p := ⟨gb578, 1, none⟩) (Kd.R_far (p := ⟨gb578, 0, none⟩) (Kd.R_types HO576.out BK578.out (by decide)) (fun _ hk => hk.2) (.int .i64 t572)) (fun _ hk => hk.2) (.int .i64 t573)) (fun _ hk => hk.2) (.slice Ao132 t574.length co132)) (fun _ h_ => h_.1))) hb); have n3_ := Aside0.mk (blk_below (g := gb538) (o := .cells #[.int .i64 t529, .int .i64 t530, .int .i64 t531, .int .i64 t532, .int .i64 t533, .int .i64 t534, .int .i64 t535, .int .i64 t536] 41 (0, 0)) (by (with_reducible repeat (first | refine blk_drewN ?_ _ | refine blk_drew ?_ | refine blk_alloc ?_ _)); refine blk_far ?_ NB538_578.out _; (with_reducible repeat (first | refine blk_drewN ?_ _ | refine blk_drew ?_ | refine blk_alloc ?_ _)); refine blk_far ?_ NB538_578.out _; (with_reducible repeat (first | refine blk_drewN ?_ _ | refine blk_drew ?_ | refine blk_alloc ?_ _)); refine blk_far ?_ NB538_578.out _; (with_reducible repeat (first | refine blk_drewN ?_ _ | refine blk_drew ?_ | refine blk_alloc ?_ _)); exact BK538.out) hb); have n4_ := Aside0.mk (blk_below (g := gb548) (o := .cells #[.int .i64 t539, .int .i64 t540, .int .i64 t541, .int .i64 t542, .int .i64 t543, .int .i64 t544, .int .i64 t545, .int .i64 t546] 41 (0, 0)) (by (with_reducible repeat (first | refine blk_drewN ?_ _ | refine blk_drew ?_ | refine blk_alloc ?_ _)); refine blk_far ?_ NB548_578.out _; (with_reducible repeat (first | refine blk_drewN ?_ _ | refine blk_drew ?_ | refine blk_alloc ?_ _)); refine blk_far ?_ NB548_578.out _; (with_reducible repeat (first | refine blk_drewN ?_ _ | refine blk_drew ?_ | refine blk_alloc ?_ _)); refine blk_far ?_ NB548_578.out _; (with_reducible repeat (first | refine blk_drewN ?_ _ | refine blk_drew ?_ | refine blk_alloc ?_ _)); exact BK548.out) hb); have n5_ := Aside0.mk (blk_below (g := gb558) (o := .cells #[.int .i64 t549, .int .i64 t550, .int .i64 t551, .int .i64 t552, .int .i64 t553, .int .i64 t554, .int .i64 t555, .int .i64 t556] 41 (0, 0)) (by (with_reducible repeat (first | refine blk_drewN ?_ _ | refine blk_drew ?_ | refine blk_alloc ?_ _)); refine blk_far ?_ NB558_578.out _; (with_reducible repeat (first | refine blk_drewN ?_ _ | refine blk_drew ?_ | refine blk_alloc ?_ _)); refine blk_far ?_ NB558_578.out _; (with_reducible repeat (first | refine blk_drewN ?_ _ | refine blk_drew ?_ | refine blk_alloc ?_ _)); refine blk_far ?_ NB558_578.out _; (with_reducible repeat (first | refine blk_drewN ?_ _ | refine blk_drew ?_ | refine blk_alloc ?_ _)); exact BK558.out) hb); have n6_ := Aside0.mk (blk_below (g := gb563) (o := .cells #[.int .i64 0, .int .i64 2, .slice (some ⟨go91, 0, none⟩) y560.length co99] 25 (0, 0)) (by (with_reducible repeat (first | refine blk_drewN ?_ _ | refine blk_drew ?_ | refine blk_alloc ?_ _)); refine blk_far ?_ NB563_578.out _; (with_reducible repeat (first | refine blk_drewN ?_ _ | refine blk_drew ?_ | refine blk_alloc ?_ _)); refine blk_far ?_ NB563_578.out _; (with_reducible repeat (first | refine blk_drewN ?_ _ | refine blk_drew ?_ | refine blk_alloc ?_ _)); refine blk_far ?_ NB563_578.out _; (with_reducible repeat (first | refine blk_drewN ?_ _ | refine blk_drew ?_ | refine blk_alloc ?_ _)); exact BK563.out) hb); have n7_ := Aside0.mk (blk_below (g := gb571) (o := .cells #[.int .i64 t565, .int .i64 t566, .slice Ao121 t567.length co121] 25 (0, 0)) (by (with_reducible repeat (first | refine blk_drewN ?_ _ | refine blk_drew ?_ | refine blk_alloc ?_ _)); refine blk_far ?_ NB571_578.out _; (with_reducible repeat (first | refine blk_drewN ?_ _ | refine blk_drew ?_ | refine blk_alloc ?_ _)); refine blk_far ?_ NB571_578.out _; (with_reducible repeat (first | refine blk_drewN ?_ _ | refine blk_drew ?_ | refine blk_alloc ?_ _)); refine blk_far ?_ NB571_578.out _; (with_reducible repeat (first | refine blk_drewN ?_ _ | refine blk_drew ?_ | refine blk_alloc ?_ _)); exact BK571.out) hb); have n8_ := Aside0.mk (blk_below (g := gb578) (o := .cells #[.int .i64 t572, .int .i64 t573, .slice Ao132 t574.length co132] 25 (0, 0)) (by (with_reducible repeat (first | refine blk_drewN ?_ _ | refine blk_drew ?_ | refine blk_alloc ?_ _)); refine blk_put (cs := #[.int .i64 t572, .int .i64 t573, .slice none 0 0]) ?_ 2 _ rfl; (with_reducible repeat (first | refine blk_drewN ?_ _ | refine blk_drew ?_ | refine blk_alloc ?_ _)); refine blk_put (cs := #[.int .i64 t572, .int .i64 0, .slice none 0 0]) ?_ 1 _ rfl; (with_reducible repeat (first | refine blk_drewN ?_ _ | refine blk_drew ?_ | refine blk_alloc ?_ _)); refine blk_put (cs := #[.int .i64 0, .int .i64 0, .slice none 0 0]) ?_ 0 _ rfl; (with_reducible repeat (first | refine blk_drewN ?_ _ | refine blk_drew ?_ | refine blk_alloc ?_ _)); exact BK578.out) hb); have n9_ := Aside0.mk (below_step (by repeat (first | (with_reducible first | exact HB.out | apply below_alloc | apply pw_below_drewN | apply below_drew1 | refine below_set ?_ GE538.out | refine below_set ?_ GE548.out | refine below_set ?_ GE558.out | refine below_set ?_ GE563.out | refine below_set ?_ GE571.out | refine below_set ?_ GE578.out) | exact HB.out)) hb); clear HO562; clear HO569; clear HO576; clear BK538; clear BK548; clear BK558; clear BK563; clear BK571; clear BK578; clear HB; have HO562 := n0_; have HO569 := n1_; have HO576 := n2_; have BK538 := n3_; have BK548 := n4_; have BK558 := n5_; have BK563 := n6_; have BK571 := n7_; have BK578 := n8_; have HB := n9_; clear n0_ n1_ n2_ n3_ n4_ n5_ n6_ n7_ n8_ n9_; (try clear hb); (try clear hb2); (try clear hk); (try clear hi)))
                          go_ret
                          exact ⟨by first | rfl | (simp [errW_none, errW_some] <;> rfl) | (simp [*, errW_none, errW_some] <;> rfl), by repeat (first | (with_reducible first | exact HB.out | apply below_alloc | apply pw_below_drewN | apply below_drew1 | refine below_set ?_ GE538.out | refine below_set ?_ GE548.out | refine below_set ?_ GE558.out | refine below_set ?_ GE563.out | refine below_set ?_ GE571.out | refine below_set ?_ GE578.out) | exact HB.out)⟩
                        · replace c95 := Bool.eq_false_iff.mpr c95
                          subst c95
                          have H1 : (some false) = some r := by rw [if_neg (show ¬ (false = true) by decide)] at H; exact H
                          clear H
                          have H := H1
                          clear H1
                          obtain rfl := Option.some.inj H
                          exact absurd hT_.out (by simp)
                      · replace c94 := Bool.eq_false_iff.mpr c94
                        subst c94
                        have H1 : (some false) = some r := by rw [if_neg (show ¬ (false = true) by decide)] at H; exact H
                        clear H
                        have H := H1
                        clear H1
                        obtain rfl := Option.some.inj H
                        exact absurd hT_.out (by simp)
                    · rw [if_neg c90] at H
                      exact absurd H (by simp)
                  · rw [if_neg c89] at H
                    exact absurd H (by simp)
                · rw [if_neg c88] at H
                  have c88b0 : decide (0 ≤ t532) = false := decide_eq_false c88
                  clear c88
                  obtain ⟨y580, hy580⟩ : ∃ y_ : List Int, y_ = (([0, 0, 0] : List Int)) := ⟨_, rfl⟩
                  replace H : ((impl_RecDo.f kj38 0 t533 y580 t529 t530 t531 t532 t533 t534 t535 t536 1).bind fun bt583 => ((impl_RecDo.f kj38 bt583.1 bt583.2.1 bt583.2.2.1 t549 t550 t551 t552 t553 t554 t555 t556 2).bind fun bt590 => (if bt583.2.2.2 = true then (if bt590.2.2.2 = true then ((laws_ltHas.f kj38 bt590.1 bt590.2.1 bt590.2.2.1 0 t533 y580).bind fun t597 => (some t597)) else (some false)) else (some false)))) = some r := by first | (rw [hy580]; with_reducible exact H) | (have H2_ := (Option.bind_some _ _).symm.trans H; rw [hy580]; with_reducible exact H2_) | (have H2_ := (Option.bind_some _ _).symm.trans H; with_reducible exact H2_) | with_reducible exact H | (rw [hy580]; exact H) | exact H
                  have Ny580 := Aside0.mk hy580
                  clear hy580
                  replace H := Option.bind_eq_some_iff.mp H
                  obtain ⟨⟨t583, t584, t585, t588⟩, A2070, H⟩ := H
                  replace H : ((impl_RecDo.f kj38 t583 t584 t585 t549 t550 t551 t552 t553 t554 t555 t556 2).bind fun bt590 => (if t588 = true then (if bt590.2.2.2 = true then ((laws_ltHas.f kj38 bt590.1 bt590.2.1 bt590.2.2.1 0 t533 y580).bind fun t597 => (some t597)) else (some false)) else (some false))) = some r := H
                  have A207 := Aside0.mk A2070
                  clear A2070
                  replace H := Option.bind_eq_some_iff.mp H
                  obtain ⟨⟨t590, t591, t592, t595⟩, A2080, H⟩ := H
                  replace H : (if t588 = true then (if t595 = true then ((laws_ltHas.f kj38 t590 t591 t592 0 t533 y580).bind fun t597 => (some t597)) else (some false)) else (some false)) = some r := H
                  have A208 := Aside0.mk A2080
                  clear A2080
                  by_cases c209 : t588 = true
                  · subst c209
                    have H1 : (if t595 = true then ((laws_ltHas.f kj38 t590 t591 t592 0 t533 y580).bind fun t597 => (some t597)) else (some false)) = some r := by rw [if_pos rfl] at H; exact H
                    clear H
                    have H := H1
                    clear H1
                    by_cases c210 : t595 = true
                    · subst c210
                      have H1 : ((laws_ltHas.f kj38 t590 t591 t592 0 t533 y580).bind fun t597 => (some t597)) = some r := by rw [if_pos rfl] at H; exact H
                      clear H
                      have H := H1
                      clear H1
                      replace H := Option.bind_eq_some_iff.mp H
                      obtain ⟨t597, A2110, H⟩ := H
                      replace H : (some t597) = some r := H
                      have A211 := Aside0.mk A2110
                      clear A2110
                      obtain rfl := Option.some.inj H
                      go_wp2_with (first | ((with_reducible refine gate_dst (N := 103) rfl ?_); refine Kd.R_lit (Kd.int .i64) _ 3 ?hg (N := 103) ?hd (xs := ([4, 5, 6] : List Int)) (inner := [.int .i64 4, .int .i64 5, .int .i64 6]) (ok := fun _ => True) (okp := fun _ => True) ?hr ?hp (fun _ hk => hk) trivial (Below.refl _ _) (Nat.le_refl _) (by simp) ?_; (case hd => rfl); (case hg => rfl); (case hr => first | (go_simp; done) | (go_simp; rfl)); (case hp => exact (Reps.one (show Kd.M (Kd.int .i64) _ _ _ 4 [.int .i64 4] from rfl) (Reps.one (show Kd.M (Kd.int .i64) _ _ _ 5 [.int .i64 5] from rfl) (Reps.one (show Kd.M (Kd.int .i64) _ _ _ 6 [.int .i64 6] from rfl) (Reps.none _ _))))); intro v561 w212 ho213 hb hg_ hnew_; clear hg_ hnew_; (first | rw [← Ny560.out] at ho213 | (simp only [Int.reduceToNat] at ho213; rw [← Ny560.out] at ho213)); have n0_ := Aside0.mk (Kd.R_lower ho213 (below_size (by repeat (first | (with_reducible first | exact HB.out | apply below_alloc | apply pw_below_drewN | apply below_drew1 | refine below_set ?_ GE538.out | refine below_set ?_ GE548.out | refine below_set ?_ GE558.out) | exact HB.out)))); have n1_ := Aside0.mk (blk_below (g := gb538) (o := .cells #[.int .i64 t529, .int .i64 t530, .int .i64 t531, .int .i64 t532, .int .i64 t533, .int .i64 t534, .int .i64 t535, .int .i64 t536] 41 (0, 0)) (by (with_reducible repeat (first | refine blk_drewN ?_ _ | refine blk_drew ?_ | refine blk_alloc ?_ _)); exact BK538.out) hb); have n2_ := Aside0.mk (blk_below (g := gb548) (o := .cells #[.int .i64 t539, .int .i64 t540, .int .i64 t541, .int .i64 t542, .int .i64 t543, .int .i64 t544, .int .i64 t545, .int .i64 t546] 41 (0, 0)) (by (with_reducible repeat (first | refine blk_drewN ?_ _ | refine blk_drew ?_ | refine blk_alloc ?_ _)); exact BK548.out) hb); have n3_ := Aside0.mk (blk_below (g := gb558) (o := .cells #[.int .i64 t549, .int .i64 t550, .int .i64 t551, .int .i64 t552, .int .i64 t553, .int .i64 t554, .int .i64 t555, .int .i64 t556] 41 (0, 0)) (by (with_reducible repeat (first | refine blk_drewN ?_ _ | refine blk_drew ?_ | refine blk_alloc ?_ _)); exact BK558.out) hb); have n4_ := Aside0.mk (below_step (by repeat (first | (with_reducible first | exact HB.out | apply below_alloc | apply pw_below_drewN | apply below_drew1 | refine below_set ?_ GE538.out | refine below_set ?_ GE548.out | refine below_set ?_ GE558.out) | exact HB.out)) hb); clear BK538; clear BK548; clear BK558; clear HB; have HO562 := n0_; have BK538 := n1_; have BK548 := n2_; have BK558 := n3_; have HB := n4_; clear n0_ n1_ n2_ n3_ n4_; clear hb ho213; obtain ⟨Ao214, co214, eo214⟩ := Kd.R_slice HO562.out; subst eo214) | ((with_reducible refine gate_dst (N := 9) rfl ?_); refine box_event ?hg (N := 9) ?hd (cs := #[.int .i64 0, .int .i64 0, .slice none 0 0]) (t := 25) ?hr ?_; (case hd => rfl); (case hg => rfl); (case hr => first | (go_simp; done) | (go_simp; rfl)); intro gb563 hg w215 hbox hb; have n0_ := Aside0.mk (Kd.R_below (by (with_reducible repeat (first | apply Kd.R_alloc | apply Kd.R_drewN | apply Kd.R_drew)); exact HO562.out) hb); have n1_ := Aside0.mk (blk_below (g := gb538) (o := .cells #[.int .i64 t529, .int .i64 t530, .int .i64 t531, .int .i64 t532, .int .i64 t533, .int .i64 t534, .int .i64 t535, .int .i64 t536] 41 (0, 0)) (by (with_reducible repeat (first | refine blk_drewN ?_ _ | refine blk_drew ?_ | refine blk_alloc ?_ _)); exact BK538.out) hb); have n2_ := Aside0.mk (blk_below (g := gb548) (o := .cells #[.int .i64 t539, .int .i64 t540, .int .i64 t541, .int .i64 t542, .int .i64 t543, .int .i64 t544, .int .i64 t545, .int .i64 t546] 41 (0, 0)) (by (with_reducible repeat (first | refine blk_drewN ?_ _ | refine blk_drew ?_ | refine blk_alloc ?_ _)); exact BK548.out) hb); have n3_ := Aside0.mk (blk_below (g := gb558) (o := .cells #[.int .i64 t549, .int .i64 t550, .int .i64 t551, .int .i64 t552, .int .i64 t553, .int .i64 t554, .int .i64 t555, .int .i64 t556] 41 (0, 0)) (by (with_reducible repeat (first | refine blk_drewN ?_ _ | refine blk_drew ?_ | refine blk_alloc ?_ _)); exact BK558.out) hb); have n4_ := Aside0.mk (below_step (by repeat (first | (with_reducible first | exact HB.out | apply below_alloc | apply pw_below_drewN | apply below_drew1 | refine below_set ?_ GE538.out | refine below_set ?_ GE548.out | refine below_set ?_ GE558.out) | exact HB.out)) hb); have n5_ := Aside0.mk (hbox); have n6_ := Aside0.mk ((by rw [hg]; exact (below_size (by repeat (first | (with_reducible first | exact HB.out | apply below_alloc | apply pw_below_drewN | apply below_drew1 | refine below_set ?_ GE538.out | refine below_set ?_ GE548.out | refine below_set ?_ GE558.out) | exact HB.out))) : w.heap.size ≤ gb563)); have n7_ := Aside0.mk ((by rw [hg]; exact (below_size (by repeat (first | (with_reducible first | exact HB.out | apply below_alloc | apply pw_below_drewN | apply below_drew1 | refine below_set ?_ GE538.out | refine below_set ?_ GE548.out | refine below_set ?_ GE558.out) | exact HB.out))) : w.heap.size ≤ gb563)); have n8_ := Aside0.mk ((by rw [hg]; exact Nat.ne_of_lt (blk_lt (g := gb538) (o := .cells #[.int .i64 t529, .int .i64 t530, .int .i64 t531, .int .i64 t532, .int .i64 t533, .int .i64 t534, .int .i64 t535, .int .i64 t536] 41 (0, 0)) (by (with_reducible repeat (first | refine blk_drewN ?_ _ | refine blk_drew ?_ | refine blk_alloc ?_ _)); exact BK538.out)) : gb538 ≠ gb563)); have n9_ := Aside0.mk ((by rw [hg]; exact Nat.ne_of_gt (blk_lt (g := gb538) (o := .cells #[.int .i64 t529, .int .i64 t530, .int .i64 t531, .int .i64 t532, .int .i64 t533, .int .i64 t534, .int .i64 t535, .int .i64 t536] 41 (0, 0)) (by (with_reducible repeat (first | refine blk_drewN ?_ _ | refine blk_drew ?_ | refine blk_alloc ?_ _)); exact BK538.out)) : gb563 ≠ gb538)); have n10_ := Aside0.mk ((by rw [hg]; exact Nat.ne_of_lt (blk_lt (g := gb548) (o := .cells #[.int .i64 t539, .int .i64 t540, .int .i64 t541, .int .i64 t542, .int .i64 t543, .int .i64 t544, .int .i64 t545, .int .i64 t546] 41 (0, 0)) (by (with_reducible repeat (first | refine blk_drewN ?_ _ | refine blk_drew ?_ | refine blk_alloc ?_ _)); exact BK548.out)) : gb548 ≠ gb563)); have n11_ := Aside0.mk ((by rw [hg]; exact Nat.ne_of_gt (blk_lt (g := gb548) (o := .cells #[.int .i64 t539, .int .i64 t540, .int .i64 t541, .int .i64 t542, .int .i64 t543, .int .i64 t544, .int .i64 t545, .int .i64 t546] 41 (0, 0)) (by (with_reducible repeat (first | refine blk_drewN ?_ _ | refine blk_drew ?_ | refine blk_alloc ?_ _)); exact BK548.out)) : gb563 ≠ gb548)); have n12_ := Aside0.mk ((by rw [hg]; exact Nat.ne_of_lt (blk_lt (g := gb558) (o := .cells #[.int .i64 t549, .int .i64 t550, .int .i64 t551, .int .i64 t552, .int .i64 t553, .int .i64 t554, .int .i64 t555, .int .i64 t556] 41 (0, 0)) (by (with_reducible repeat (first | refine blk_drewN ?_ _ | refine blk_drew ?_ | refine blk_alloc ?_ _)); exact BK558.out)) : gb558 ≠ gb563)); have n13_ := Aside0.mk ((by rw [hg]; exact Nat.ne_of_gt (blk_lt (g := gb558) (o := .cells #[.int .i64 t549, .int .i64 t550, .int .i64 t551, .int .i64 t552, .int .i64 t553, .int .i64 t554, .int .i64 t555, .int .i64 t556] 41 (0, 0)) (by (with_reducible repeat (first | refine blk_drewN ?_ _ | refine blk_drew ?_ | refine blk_alloc ?_ _)); exact BK558.out)) : gb563 ≠ gb558)); clear HO562; clear BK538; clear BK548; clear BK558; clear HB; have HO562 := n0_; have BK538 := n1_; have BK548 := n2_; have BK558 := n3_; have HB := n4_; have BK563 := n5_; have GW563 := n6_; have GE563 := n7_; have NB538_563 := n8_; have NB563_538 := n9_; have NB548_563 := n10_; have NB563_548 := n11_; have NB558_563 := n12_; have NB563_558 := n13_; clear n0_ n1_ n2_ n3_ n4_ n5_ n6_ n7_ n8_ n9_ n10_ n11_ n12_ n13_; clear hb hbox hg; have hnb216 := NB563_538.out; have hnc216 := NB538_563.out; have hnb217 := NB563_548.out; have hnc217 := NB548_563.out; have hnb218 := NB563_558.out; have hnc218 := NB558_563.out; have hcz219_0 : w215.cell? ⟨gb563, 0, none⟩ = some (.int .i64 0) := (blk_cell BK563.out 0).trans rfl; have hcz219_1 : w215.cell? ⟨gb563, 1, none⟩ = some (.int .i64 0) := (blk_cell BK563.out 1).trans rfl; have hcz219_2 : w215.cell? ⟨gb563, 2, none⟩ = some (.slice none 0 0) := (blk_cell BK563.out 2).trans rfl; have hfz219_0 := blk_frozen BK563.out 0; have hfz219_1 := blk_frozen BK563.out 1; have hfz219_2 := blk_frozen BK563.out 2; have hnb220 := NB538_548.out; have hnc220 := NB548_538.out; have hnb221 := NB538_558.out; have hnc221 := NB558_538.out; have hcz222_0 : w215.cell? ⟨gb538, 0, none⟩ = some (.int .i64 t529) := (blk_cell BK538.out 0).trans rfl; have hcz222_1 : w215.cell? ⟨gb538, 1, none⟩ = some (.int .i64 t530) := (blk_cell BK538.out 1).trans rfl; have hcz222_2 : w215.cell? ⟨gb538, 2, none⟩ = some (.int .i64 t531) := (blk_cell BK538.out 2).trans rfl; have hcz222_3 : w215.cell? ⟨gb538, 3, none⟩ = some (.int .i64 t532) := (blk_cell BK538.out 3).trans rfl; have hcz222_4 : w215.cell? ⟨gb538, 4, none⟩ = some (.int .i64 t533) := (blk_cell BK538.out 4).trans rfl; have hcz222_5 : w215.cell? ⟨gb538, 5, none⟩ = some (.int .i64 t534) := (blk_cell BK538.out 5).trans rfl; have hcz222_6 : w215.cell? ⟨gb538, 6, none⟩ = some (.int .i64 t535) := (blk_cell BK538.out 6).trans rfl; have hcz222_7 : w215.cell? ⟨gb538, 7, none⟩ = some (.int .i64 t536) := (blk_cell BK538.out 7).trans rfl; have hfz222_0 := blk_frozen BK538.out 0; have hfz222_1 := blk_frozen BK538.out 1; have hfz222_2 := blk_frozen BK538.out 2; have hfz222_3 := blk_frozen BK538.out 3; have hfz222_4 := blk_frozen BK538.out 4; have hfz222_5 := blk_frozen BK538.out 5; have hfz222_6 := blk_frozen BK538.out 6; have hfz222_7 := blk_frozen BK538.out 7) | ((with_reducible refine gate_dst (N := 118) rfl ?_); refine Kd.R_lit (Kd.int .i64) _ 3 ?hg (N := 118) ?hd (xs := ([0, 0, 0] : List Int)) (inner := [.int .i64 0, .int .i64 0, .int .i64 0]) (ok := fun _ => True) (okp := fun _ => True) ?hr ?hp (fun _ hk => hk) trivial (Below.refl _ _) (Nat.le_refl _) (by simp) ?_; (case hd => rfl); (case hg => rfl); (case hr => first | (go_simp; done) | (go_simp; rfl)); (case hp => exact (Reps.one (show Kd.M (Kd.int .i64) _ _ _ 0 [.int .i64 0] from rfl) (Reps.one (show Kd.M (Kd.int .i64) _ _ _ 0 [.int .i64 0] from rfl) (Reps.one (show Kd.M (Kd.int .i64) _ _ _ 0 [.int .i64 0] from rfl) (Reps.none _ _))))); intro v581 w223 ho224 hb hg_ hnew_; clear hg_ hnew_; (first | rw [← Ny580.out] at ho224 | (simp only [Int.reduceToNat] at ho224; rw [← Ny580.out] at ho224)); have n0_ := Aside0.mk (Kd.R_elder' (by (with_reducible repeat (first | apply Kd.R_alloc | apply Kd.R_drewN | apply Kd.R_drew)); exact (Kd.R_mono (Kd.R_far (p := ⟨gb563, 1, none⟩) (Kd.R_far (p := ⟨gb563, 2, none⟩) (Kd.R_far (p := ⟨gb563, 1, none⟩) (Kd.R_far (p := ⟨gb563, 0, none⟩) (Kd.R_types HO562.out BK563.out (by decide)) (fun _ hk => hk.2) (.int .i64 0)) (fun _ hk => hk.2) (.int .i64 2)) (fun _ hk => hk.2) (.slice Ao214 y560.length co214)) (fun _ hk => hk.2) (.int .i64 t533)) (fun _ h_ => h_.1))) (Kd.R_base ho224) hb); have n1_ := Aside0.mk (Kd.R_lower (Kd.R_new' ho224 (Kd.R_lt (by (with_reducible repeat (first | apply Kd.R_alloc | apply Kd.R_drewN | apply Kd.R_drew)); exact (Kd.R_mono (Kd.R_far (p := ⟨gb563, 1, none⟩) (Kd.R_far (p := ⟨gb563, 2, none⟩) (Kd.R_far (p := ⟨gb563, 1, none⟩) (Kd.R_far (p := ⟨gb563, 0, none⟩) (Kd.R_types HO562.out BK563.out (by decide)) (fun _ hk => hk.2) (.int .i64 0)) (fun _ hk => hk.2) (.int .i64 2)) (fun _ hk => hk.2) (.slice Ao214 y560.length co214)) (fun _ hk => hk.2) (.int .i64 t533)) (fun _ h_ => h_.1))))) (below_size (by repeat (first | (with_reducible first | exact HB.out | apply below_alloc | apply pw_below_drewN | apply below_drew1 | refine below_set ?_ GE538.out | refine below_set ?_ GE548.out | refine below_set ?_ GE558.out | refine below_set ?_ GE563.out) | exact HB.out)))); have n2_ := Aside0.mk (blk_below (g := gb538) (o := .cells #[.int .i64 t529, .int .i64 t530, .int .i64 t531, .int .i64 t532, .int .i64 t533, .int .i64 t534, .int .i64 t535, .int .i64 t536] 41 (0, 0)) (by (with_reducible repeat (first | refine blk_drewN ?_ _ | refine blk_drew ?_ | refine blk_alloc ?_ _)); refine blk_far ?_ NB538_563.out _; (with_reducible repeat (first | refine blk_drewN ?_ _ | refine blk_drew ?_ | refine blk_alloc ?_ _)); refine blk_far ?_ NB538_563.out _; (with_reducible repeat (first | refine blk_drewN ?_ _ | refine blk_drew ?_ | refine blk_alloc ?_ _)); refine blk_far ?_ NB538_563.out _; (with_reducible repeat (first | refine blk_drewN ?_ _ | refine blk_drew ?_ | refine blk_alloc ?_ _)); refine blk_far ?_ NB538_563.out _; (with_reducible repeat (first | refine blk_drewN ?_ _ | refine blk_drew ?_ | refine blk_alloc ?_ _)); exact BK538.out) hb); have n3_ := Aside0.mk (blk_below (g := gb548) (o := .cells #[.int .i64 t539, .int .i64 t540, .int .i64 t541, .int .i64 t542, .int .i64 t543, .int .i64 t544, .int .i64 t545, .int .i64 t546] 41 (0, 0)) (by (with_reducible repeat (first | refine blk_drewN ?_ _ | refine blk_drew ?_ | refine blk_alloc ?_ _)); refine blk_far ?_ NB548_563.out _; (with_reducible repeat (first | refine blk_drewN ?_ _ | refine blk_drew ?_ | refine blk_alloc ?_ _)); refine blk_far ?_ NB548_563.out _; (with_reducible repeat (first | refine blk_drewN ?_ _ | refine blk_drew ?_ | refine blk_alloc ?_ _)); refine blk_far ?_ NB548_563.out _; (with_reducible repeat (first | refine blk_drewN ?_ _ | refine blk_drew ?_ | refine blk_alloc ?_ _)); refine blk_far ?_ NB548_563.out _; (with_reducible repeat (first | refine blk_drewN ?_ _ | refine blk_drew ?_ | refine blk_alloc ?_ _)); exact BK548.out) hb); have n4_ := Aside0.mk (blk_below (g := gb558) (o := .cells #[.int .i64 t549, .int .i64 t550, .int .i64 t551, .int .i64 t552, .int .i64 t553, .int .i64 t554, .int .i64 t555, .int .i64 t556] 41 (0, 0)) (by (with_reducible repeat (first | refine blk_drewN ?_ _ | refine blk_drew ?_ | refine blk_alloc ?_ _)); refine blk_far ?_ NB558_563.out _; (with_reducible repeat (first | refine blk_drewN ?_ _ | refine blk_drew ?_ | refine blk_alloc ?_ _)); refine blk_far ?_ NB558_563.out _; (with_reducible repeat (first | refine blk_drewN ?_ _ | refine blk_drew ?_ | refine blk_alloc ?_ _)); refine blk_far ?_ NB558_563.out _; (with_reducible repeat (first | refine blk_drewN ?_ _ | refine blk_drew ?_ | refine blk_alloc ?_ _)); refine blk_far ?_ NB558_563.out _; (with_reducible repeat (first | refine blk_drewN ?_ _ | refine blk_drew ?_ | refine blk_alloc ?_ _)); exact BK558.out) hb); have n5_ := Aside0.mk (blk_below (g := gb563) (o := .cells #[.int .i64 0, .int .i64 t533, .slice Ao214 y560.length co214] 25 (0, 0)) (by (with_reducible repeat (first | refine blk_drewN ?_ _ | refine blk_drew ?_ | refine blk_alloc ?_ _)); refine blk_put (cs := #[.int .i64 0, .int .i64 2, .slice Ao214 y560.length co214]) ?_ 1 _ rfl; (with_reducible repeat (first | refine blk_drewN ?_ _ | refine blk_drew ?_ | refine blk_alloc ?_ _)); refine blk_put (cs := #[.int .i64 0, .int .i64 2, .slice none 0 0]) ?_ 2 _ rfl; (with_reducible repeat (first | refine blk_drewN ?_ _ | refine blk_drew ?_ | refine blk_alloc ?_ _)); refine blk_put (cs := #[.int .i64 0, .int .i64 0, .slice none 0 0]) ?_ 1 _ rfl; (with_reducible repeat (first | refine blk_drewN ?_ _ | refine blk_drew ?_ | refine blk_alloc ?_ _)); refine blk_put (cs := #[.int .i64 0, .int .i64 0, .slice none 0 0]) ?_ 0 _ rfl; (with_reducible repeat (first | refine blk_drewN ?_ _ | refine blk_drew ?_ | refine blk_alloc ?_ _)); exact BK563.out) hb); have n6_ := Aside0.mk (below_step (by repeat (first | (with_reducible first | exact HB.out | apply below_alloc | apply pw_below_drewN | apply below_drew1 | refine below_set ?_ GE538.out | refine below_set ?_ GE548.out | refine below_set ?_ GE558.out | refine below_set ?_ GE563.out) | exact HB.out)) hb); clear HO562; clear BK538; clear BK548; clear BK558; clear BK563; clear HB; have HO562 := n0_; have HO582 := n1_; have BK538 := n2_; have BK548 := n3_; have BK558 := n4_; have BK563 := n5_; have HB := n6_; clear n0_ n1_ n2_ n3_ n4_ n5_ n6_; clear hb ho224; obtain ⟨Ao225, co225, eo225⟩ := Kd.R_slice HO582.out; subst eo225; have hcz226_0 : w223.cell? ⟨gb563, 0, none⟩ = some (.int .i64 0) := (blk_cell BK563.out 0).trans rfl; have hcz226_1 : w223.cell? ⟨gb563, 1, none⟩ = some (.int .i64 t533) := (blk_cell BK563.out 1).trans rfl; have hcz226_2 : w223.cell? ⟨gb563, 2, none⟩ = some (.slice Ao214 y560.length co214) := (blk_cell BK563.out 2).trans rfl; have hfz226_0 := blk_frozen BK563.out 0; have hfz226_1 := blk_frozen BK563.out 1; have hfz226_2 := blk_frozen BK563.out 2; have hcz227_0 : w223.cell? ⟨gb538, 0, none⟩ = some (.int .i64 t529) := (blk_cell BK538.out 0).trans rfl; have hcz227_1 : w223.cell? ⟨gb538, 1, none⟩ = some (.int .i64 t530) := (blk_cell BK538.out 1).trans rfl; have hcz227_2 : w223.cell? ⟨gb538, 2, none⟩ = some (.int .i64 t531) := (blk_cell BK538.out 2).trans rfl; have hcz227_3 : w223.cell? ⟨gb538, 3, none⟩ = some (.int .i64 t532) := (blk_cell BK538.out 3).trans rfl; have hcz227_4 : w223.cell? ⟨gb538, 4, none⟩ = some (.int .i64 t533) := (blk_cell BK538.out 4).trans rfl; have hcz227_5 : w223.cell? ⟨gb538, 5, none⟩ = some (.int .i64 t534) := (blk_cell BK538.out 5).trans rfl; have hcz227_6 : w223.cell? ⟨gb538, 6, none⟩ = some (.int .i64 t535) := (blk_cell BK538.out 6).trans rfl; have hcz227_7 : w223.cell? ⟨gb538, 7, none⟩ = some (.int .i64 t536) := (blk_cell BK538.out 7).trans rfl; have hfz227_0 := blk_frozen BK538.out 0; have hfz227_1 := blk_frozen BK538.out 1; have hfz227_2 := blk_frozen BK538.out 2; have hfz227_3 := blk_frozen BK538.out 3; have hfz227_4 := blk_frozen BK538.out 4; have hfz227_5 := blk_frozen BK538.out 5; have hfz227_6 := blk_frozen BK538.out 6; have hfz227_7 := blk_frozen BK538.out 7) | ((with_reducible refine gate_callee (f := 42) rfl ?_); refine goesL_ (some 123) rfl rfl Try.func42 (by kernel_rfl) rfl #[.agg #[.int .i64 0, .int .i64 t533, .slice Ao225 y580.length co225], .agg #[.int .i64 t529, .int .i64 t530, .int .i64 t531, .int .i64 t532, .int .i64 t533, .int .i64 t534, .int .i64 t535, .int .i64 t536], .int .i64 1] rfl (by (try simp only [List.map_toArray, List.map_cons, List.map_nil]); first | done | rfl | (simp only [List.length_drop, List.length_take]; rfl)) ?_; (with_reducible refine (impl_RecDo.calls kj38 0 t533 _ _ y580 t529 t530 t531 t532 t533 t534 t535 t536 1 t583 t584 t585 true _ ?side1 ?side2 A207.out).mono ?_); (case side1 => refine (Kd.R_reads' (e := 3) (base := w.heap.size) (ok := fun k_ => (True ∧ some k_ ≠ (.slice Ao214 y560.length co214 : Value).ownBlock)) (n := y580.length) (c := co225) ?_).2.2; exact (by (with_reducible repeat (first | apply Kd.R_alloc | apply Kd.R_drewN | apply Kd.R_drew)); exact (Kd.R_mono (Kd.R_far (p := ⟨gb563, 2, none⟩) (Kd.R_types HO582.out BK563.out (by decide)) (fun _ hk => hk.2) (.slice Ao225 y580.length co225)) (fun _ h_ => h_.1)))); (case side2 => exact (Kd.R_reads' HO582.out).2.1); rintro e w228 ⟨v586, rfl, ho0, hb⟩; refine ⟨_, rfl, ?_⟩; have n0_ := Aside0.mk (Kd.R_elder' (by (with_reducible repeat (first | apply Kd.R_alloc | apply Kd.R_drewN | apply Kd.R_drew)); exact (Kd.R_mono (Kd.R_far (p := ⟨gb563, 2, none⟩) (Kd.R_types HO562.out BK563.out (by decide)) (fun _ hk => hk.2) (.slice Ao225 y580.length co225)) (fun _ h_ => h_.1))) (Kd.R_base ho0) hb); have n1_ := Aside0.mk (Kd.R_elder' (by (with_reducible repeat (first | apply Kd.R_alloc | apply Kd.R_drewN | apply Kd.R_drew)); exact (Kd.R_mono (Kd.R_far (p := ⟨gb563, 2, none⟩) (Kd.R_types HO582.out BK563.out (by decide)) (fun _ hk => hk.2) (.slice Ao225 y580.length co225)) (fun _ h_ => h_.1))) (Kd.R_base ho0) hb); have n2_ := Aside0.mk (Kd.R_lower (Kd.R_new' (Kd.R_new' ho0 (Kd.R_lt (by (with_reducible repeat (first | apply Kd.R_alloc | apply Kd.R_drewN | apply Kd.R_drew)); exact (Kd.R_mono (Kd.R_far (p := ⟨gb563, 2, none⟩) (Kd.R_types HO562.out BK563.out (by decide)) (fun _ hk => hk.2) (.slice Ao225 y580.length co225)) (fun _ h_ => h_.1))))) (Kd.R_lt (by (with_reducible repeat (first | apply Kd.R_alloc | apply Kd.R_drewN | apply Kd.R_drew)); exact (Kd.R_mono (Kd.R_far (p := ⟨gb563, 2, none⟩) (Kd.R_types HO582.out BK563.out (by decide)) (fun _ hk => hk.2) (.slice Ao225 y580.length co225)) (fun _ h_ => h_.1))))) (below_size (by repeat (first | (with_reducible first | exact HB.out | apply below_alloc | apply pw_below_drewN | apply below_drew1 | refine below_set ?_ GE538.out | refine below_set ?_ GE548.out | refine below_set ?_ GE558.out | refine below_set ?_ GE563.out) | exact HB.out)))); have n3_ := Aside0.mk (blk_below (g := gb538) (o := .cells #[.int .i64 t529, .int .i64 t530, .int .i64 t531, .int .i64 t532, .int .i64 t533, .int .i64 t534, .int .i64 t535, .int .i64 t536] 41 (0, 0)) (by (with_reducible repeat (first | refine blk_drewN ?_ _ | refine blk_drew ?_ | refine blk_alloc ?_ _)); refine blk_far ?_ NB538_563.out _; (with_reducible repeat (first | refine blk_drewN ?_ _ | refine blk_drew ?_ | refine blk_alloc ?_ _)); exact BK538.out) hb); have n4_ := Aside0.mk (blk_below (g := gb548) (o := .cells #[.int .i64 t539, .int .i64 t540, .int .i64 t541, .int .i64 t542, .int .i64 t543, .int .i64 t544, .int .i64 t545, .int .i64 t546] 41 (0, 0)) (by (with_reducible repeat (first | refine blk_drewN ?_ _ | refine blk_drew ?_ | refine blk_alloc ?_ _)); refine blk_far ?_ NB548_563.out _; (with_reducible repeat (first | refine blk_drewN ?_ _ | refine blk_drew ?_ | refine blk_alloc ?_ _)); exact BK548.out) hb); have n5_ := Aside0.mk (blk_below (g := gb558) (o := .cells #[.int .i64 t549, .int .i64 t550, .int .i64 t551, .int .i64 t552, .int .i64 t553, .int .i64 t554, .int .i64 t555, .int .i64 t556] 41 (0, 0)) (by (with_reducible repeat (first | refine blk_drewN ?_ _ | refine blk_drew ?_ | refine blk_alloc ?_ _)); refine blk_far ?_ NB558_563.out _; (with_reducible repeat (first | refine blk_drewN ?_ _ | refine blk_drew ?_ | refine blk_alloc ?_ _)); exact BK558.out) hb); have n6_ := Aside0.mk (blk_below (g := gb563) (o := .cells #[.int .i64 0, .int .i64 t533, .slice Ao225 y580.length co225] 25 (0, 0)) (by (with_reducible repeat (first | refine blk_drewN ?_ _ | refine blk_drew ?_ | refine blk_alloc ?_ _)); refine blk_put (cs := #[.int .i64 0, .int .i64 t533, .slice Ao214 y560.length co214]) ?_ 2 _ rfl; (with_reducible repeat (first | refine blk_drewN ?_ _ | refine blk_drew ?_ | refine blk_alloc ?_ _)); exact BK563.out) hb); have n7_ := Aside0.mk (below_step (by repeat (first | (with_reducible first | exact HB.out | apply below_alloc | apply pw_below_drewN | apply below_drew1 | refine below_set ?_ GE538.out | refine below_set ?_ GE548.out | refine below_set ?_ GE558.out | refine below_set ?_ GE563.out) | exact HB.out)) hb); clear HO562; clear HO582; clear BK538; clear BK548; clear BK558; clear BK563; clear HB; have HO562 := n0_; have HO582 := n1_; have HO587 := n2_; have BK538 := n3_; have BK548 := n4_; have BK558 := n5_; have BK563 := n6_; have HB := n7_; clear n0_ n1_ n2_ n3_ n4_ n5_ n6_ n7_; (try clear hb); (try clear hb2); (try clear hk); (try clear hi); (try clear ho0)) | ((with_reducible refine gate_dst (N := 10) rfl ?_); refine box_event ?hg (N := 10) ?hd (cs := #[.int .i64 0, .int .i64 0, .slice none 0 0]) (t := 25) ?hr ?_; (case hd => rfl); (case hg => rfl); (case hr => first | (go_simp; done) | (go_simp; rfl)); intro gb589 hg w229 hbox hb; have n0_ := Aside0.mk (Kd.R_below (by (with_reducible repeat (first | apply Kd.R_alloc | apply Kd.R_drewN | apply Kd.R_drew)); exact HO562.out) hb); have n1_ := Aside0.mk (Kd.R_below (by (with_reducible repeat (first | apply Kd.R_alloc | apply Kd.R_drewN | apply Kd.R_drew)); exact HO582.out) hb); have n2_ := Aside0.mk (Kd.R_below (by (with_reducible repeat (first | apply Kd.R_alloc | apply Kd.R_drewN | apply Kd.R_drew)); exact HO587.out) hb); have n3_ := Aside0.mk (blk_below (g := gb538) (o := .cells #[.int .i64 t529, .int .i64 t530, .int .i64 t531, .int .i64 t532, .int .i64 t533, .int .i64 t534, .int .i64 t535, .int .i64 t536] 41 (0, 0)) (by (with_reducible repeat (first | refine blk_drewN ?_ _ | refine blk_drew ?_ | refine blk_alloc ?_ _)); exact BK538.out) hb); have n4_ := Aside0.mk (blk_below (g := gb548) (o := .cells #[.int .i64 t539, .int .i64 t540, .int .i64 t541, .int .i64 t542, .int .i64 t543, .int .i64 t544, .int .i64 t545, .int .i64 t546] 41 (0, 0)) (by (with_reducible repeat (first | refine blk_drewN ?_ _ | refine blk_drew ?_ | refine blk_alloc ?_ _)); exact BK548.out) hb); have n5_ := Aside0.mk (blk_below (g := gb558) (o := .cells #[.int .i64 t549, .int .i64 t550, .int .i64 t551, .int .i64 t552, .int .i64 t553, .int .i64 t554, .int .i64 t555, .int .i64 t556] 41 (0, 0)) (by (with_reducible repeat (first | refine blk_drewN ?_ _ | refine blk_drew ?_ | refine blk_alloc ?_ _)); exact BK558.out) hb); have n6_ := Aside0.mk (blk_below (g := gb563) (o := .cells #[.int .i64 0, .int .i64 t533, .slice Ao225 y580.length co225] 25 (0, 0)) (by (with_reducible repeat (first | refine blk_drewN ?_ _ | refine blk_drew ?_ | refine blk_alloc ?_ _)); exact BK563.out) hb); have n7_ := Aside0.mk (below_step (by repeat (first | (with_reducible first | exact HB.out | apply below_alloc | apply pw_below_drewN | apply below_drew1 | refine below_set ?_ GE538.out | refine below_set ?_ GE548.out | refine below_set ?_ GE558.out | refine below_set ?_ GE563.out) | exact HB.out)) hb); have n8_ := Aside0.mk (hbox); have n9_ := Aside0.mk ((by rw [hg]; exact (below_size (by repeat (first | (with_reducible first | exact HB.out | apply below_alloc | apply pw_below_drewN | apply below_drew1 | refine below_set ?_ GE538.out | refine below_set ?_ GE548.out | refine below_set ?_ GE558.out | refine below_set ?_ GE563.out) | exact HB.out))) : w.heap.size ≤ gb589)); have n10_ := Aside0.mk ((by rw [hg]; exact (below_size (by repeat (first | (with_reducible first | exact HB.out | apply below_alloc | apply pw_below_drewN | apply below_drew1 | refine below_set ?_ GE538.out | refine below_set ?_ GE548.out | refine below_set ?_ GE558.out | refine below_set ?_ GE563.out) | exact HB.out))) : w.heap.size ≤ gb589)); have n11_ := Aside0.mk ((by rw [hg]; exact Nat.ne_of_lt (blk_lt (g := gb538) (o := .cells #[.int .i64 t529, .int .i64 t530, .int .i64 t531, .int .i64 t532, .int .i64 t533, .int .i64 t534, .int .i64 t535, .int .i64 t536] 41 (0, 0)) (by (with_reducible repeat (first | refine blk_drewN ?_ _ | refine blk_drew ?_ | refine blk_alloc ?_ _)); exact BK538.out)) : gb538 ≠ gb589)); have n12_ := Aside0.mk ((by rw [hg]; exact Nat.ne_of_gt (blk_lt (g := gb538) (o := .cells #[.int .i64 t529, .int .i64 t530, .int .i64 t531, .int .i64 t532, .int .i64 t533, .int .i64 t534, .int .i64 t535, .int .i64 t536] 41 (0, 0)) (by (with_reducible repeat (first | refine blk_drewN ?_ _ | refine blk_drew ?_ | refine blk_alloc ?_ _)); exact BK538.out)) : gb589 ≠ gb538)); have n13_ := Aside0.mk ((by rw [hg]; exact Nat.ne_of_lt (blk_lt (g := gb548) (o := .cells #[.int .i64 t539, .int .i64 t540, .int .i64 t541, .int .i64 t542, .int .i64 t543, .int .i64 t544, .int .i64 t545, .int .i64 t546] 41 (0, 0)) (by (with_reducible repeat (first | refine blk_drewN ?_ _ | refine blk_drew ?_ | refine blk_alloc ?_ _)); exact BK548.out)) : gb548 ≠ gb589)); have n14_ := Aside0.mk ((by rw [hg]; exact Nat.ne_of_gt (blk_lt (g := gb548) (o := .cells #[.int .i64 t539, .int .i64 t540, .int .i64 t541, .int .i64 t542, .int .i64 t543, .int .i64 t544, .int .i64 t545, .int .i64 t546] 41 (0, 0)) (by (with_reducible repeat (first | refine blk_drewN ?_ _ | refine blk_drew ?_ | refine blk_alloc ?_ _)); exact BK548.out)) : gb589 ≠ gb548)); have n15_ := Aside0.mk ((by rw [hg]; exact Nat.ne_of_lt (blk_lt (g := gb558) (o := .cells #[.int .i64 t549, .int .i64 t550, .int .i64 t551, .int .i64 t552, .int .i64 t553, .int .i64 t554, .int .i64 t555, .int .i64 t556] 41 (0, 0)) (by (with_reducible repeat (first | refine blk_drewN ?_ _ | refine blk_drew ?_ | refine blk_alloc ?_ _)); exact BK558.out)) : gb558 ≠ gb589)); have n16_ := Aside0.mk ((by rw [hg]; exact Nat.ne_of_gt (blk_lt (g := gb558) (o := .cells #[.int .i64 t549, .int .i64 t550, .int .i64 t551, .int .i64 t552, .int .i64 t553, .int .i64 t554, .int .i64 t555, .int .i64 t556] 41 (0, 0)) (by (with_reducible repeat (first | refine blk_drewN ?_ _ | refine blk_drew ?_ | refine blk_alloc ?_ _)); exact BK558.out)) : gb589 ≠ gb558)); have n17_ := Aside0.mk ((by rw [hg]; exact Nat.ne_of_lt (blk_lt (g := gb563) (o := .cells #[.int .i64 0, .int .i64 t533, .slice Ao225 y580.length co225] 25 (0, 0)) (by (with_reducible repeat (first | refine blk_drewN ?_ _ | refine blk_drew ?_ | refine blk_alloc ?_ _)); exact BK563.out)) : gb563 ≠ gb589)); have n18_ := Aside0.mk ((by rw [hg]; exact Nat.ne_of_gt (blk_lt (g := gb563) (o := .cells #[.int .i64 0, .int .i64 t533, .slice Ao225 y580.length co225] 25 (0, 0)) (by (with_reducible repeat (first | refine blk_drewN ?_ _ | refine blk_drew ?_ | refine blk_alloc ?_ _)); exact BK563.out)) : gb589 ≠ gb563)); clear HO562; clear HO582; clear HO587; clear BK538; clear BK548; clear BK558; clear BK563; clear HB; have HO562 := n0_; have HO582 := n1_; have HO587 := n2_; have BK538 := n3_; have BK548 := n4_; have BK558 := n5_; have BK563 := n6_; have HB := n7_; have BK589 := n8_; have GW589 := n9_; have GE589 := n10_; have NB538_589 := n11_; have NB589_538 := n12_; have NB548_589 := n13_; have NB589_548 := n14_; have NB558_589 := n15_; have NB589_558 := n16_; have NB563_589 := n17_; have NB589_563 := n18_; clear n0_ n1_ n2_ n3_ n4_ n5_ n6_ n7_ n8_ n9_ n10_ n11_ n12_ n13_ n14_ n15_ n16_ n17_ n18_; clear hb hbox hg; have hnb230 := NB589_538.out; have hnc230 := NB538_589.out; have hnb231 := NB589_548.out; have hnc231 := NB548_589.out; have hnb232 := NB589_558.out; have hnc232 := NB558_589.out; have hnb233 := NB589_563.out; have hnc233 := NB563_589.out; have hcz234_0 : w229.cell? ⟨gb589, 0, none⟩ = some (.int .i64 0) := (blk_cell BK589.out 0).trans rfl; have hcz234_1 : w229.cell? ⟨gb589, 1, none⟩ = some (.int .i64 0) := (blk_cell BK589.out 1).trans rfl; have hcz234_2 : w229.cell? ⟨gb589, 2, none⟩ = some (.slice none 0 0) := (blk_cell BK589.out 2).trans rfl; have hfz234_0 := blk_frozen BK589.out 0; have hfz234_1 := blk_frozen BK589.out 1; have hfz234_2 := blk_frozen BK589.out 2; obtain ⟨Ao235, co235, eo235⟩ := Kd.R_slice HO587.out; subst eo235; have hnb236 := NB558_548.out; have hnc236 := NB548_558.out; have hcz237_0 : w229.cell? ⟨gb558, 0, none⟩ = some (.int .i64 t549) := (blk_cell BK558.out 0).trans rfl; have hcz237_1 : w229.cell? ⟨gb558, 1, none⟩ = some (.int .i64 t550) := (blk_cell BK558.out 1).trans rfl; have hcz237_2 : w229.cell? ⟨gb558, 2, none⟩ = some (.int .i64 t551) := (blk_cell BK558.out 2).trans rfl; have hcz237_3 : w229.cell? ⟨gb558, 3, none⟩ = some (.int .i64 t552) := (blk_cell BK558.out 3).trans rfl; have hcz237_4 : w229.cell? ⟨gb558, 4, none⟩ = some (.int .i64 t553) := (blk_cell BK558.out 4).trans rfl; have hcz237_5 : w229.cell? ⟨gb558, 5, none⟩ = some (.int .i64 t554) := (blk_cell BK558.out 5).trans rfl; have hcz237_6 : w229.cell? ⟨gb558, 6, none⟩ = some (.int .i64 t555) := (blk_cell BK558.out 6).trans rfl; have hcz237_7 : w229.cell? ⟨gb558, 7, none⟩ = some (.int .i64 t556) := (blk_cell BK558.out 7).trans rfl; have hfz237_0 := blk_frozen BK558.out 0; have hfz237_1 := blk_frozen BK558.out 1; have hfz237_2 := blk_frozen BK558.out 2; have hfz237_3 := blk_frozen BK558.out 3; have hfz237_4 := blk_frozen BK558.out 4; have hfz237_5 := blk_frozen BK558.out 5; have hfz237_6 := blk_frozen BK558.out 6; have hfz237_7 := blk_frozen BK558.out 7) | ((with_reducible refine gate_callee (f := 42) rfl ?_); refine goesL_ (some 129) rfl rfl Try.func42 (by kernel_rfl) rfl #[.agg #[.int .i64 t583, .int .i64 t584, .slice Ao235 t585.length co235], .agg #[.int .i64 t549, .int .i64 t550, .int .i64 t551, .int .i64 t552, .int .i64 t553, .int .i64 t554, .int .i64 t555, .int .i64 t556], .int .i64 2] rfl (by (try simp only [List.map_toArray, List.map_cons, List.map_nil]); first | done | rfl | (simp only [List.length_drop, List.length_take]; rfl)) ?_; (with_reducible refine (impl_RecDo.calls kj38 t583 t584 _ _ t585 t549 t550 t551 t552 t553 t554 t555 t556 2 t590 t591 t592 true _ ?side1 ?side2 A208.out).mono ?_); (case side1 => refine (Kd.R_reads' (e := 3) (base := w.heap.size) (ok := fun k_ => ((True ∧ some k_ ≠ (.slice Ao214 y560.length co214 : Value).ownBlock) ∧ some k_ ≠ (.slice Ao225 y580.length co225 : Value).ownBlock)) (n := t585.length) (c := co235) ?_).2.2; exact (by (with_reducible repeat (first | apply Kd.R_alloc | apply Kd.R_drewN | apply Kd.R_drew)); exact (Kd.R_mono (Kd.R_far (p := ⟨gb589, 2, none⟩) (Kd.R_far (p := ⟨gb589, 1, none⟩) (Kd.R_far (p := ⟨gb589, 0, none⟩) (Kd.R_types HO587.out BK589.out (by decide)) (fun _ hk => hk.2) (.int .i64 t583)) (fun _ hk => hk.2) (.int .i64 t584)) (fun _ hk => hk.2) (.slice Ao235 t585.length co235)) (fun _ h_ => h_.1)))); (case side2 => exact (Kd.R_reads' HO587.out).2.1); rintro e w238 ⟨v593, rfl, ho0, hb⟩; refine ⟨_, rfl, ?_⟩; have n0_ := Aside0.mk (Kd.R_elder' (by (with_reducible repeat (first | apply Kd.R_alloc | apply Kd.R_drewN | apply Kd.R_drew)); exact (Kd.R_mono (Kd.R_far (p := ⟨gb589, 2, none⟩) (Kd.R_far (p := ⟨gb589, 1, none⟩) (Kd.R_far (p := ⟨gb589, 0, none⟩) (Kd.R_types HO562.out BK589.out (by decide)) (fun _ hk => hk.2) (.int .i64 t583)) (fun _ hk => hk.2) (.int .i64 t584)) (fun _ hk => hk.2) (.slice Ao235 t585.length co235)) (fun _ h_ => h_.1))) (Kd.R_base ho0) hb); have n1_ := Aside0.mk (Kd.R_elder' (by (with_reducible repeat (first | apply Kd.R_alloc | apply Kd.R_drewN | apply Kd.R_drew)); exact (Kd.R_mono (Kd.R_far (p := ⟨gb589, 2, none⟩) (Kd.R_far (p := ⟨gb589, 1, none⟩) (Kd.R_far (p := ⟨gb589, 0, none⟩) (Kd.R_types HO582.out BK589.out (by decide)) (fun _ hk => hk.2) (.int .i64 t583)) (fun _ hk => hk.2) (.int .i64 t584)) (fun _ hk => hk.2) (.slice Ao235 t585.length co235)) (fun _ h_ => h_.1))) (Kd.R_base ho0) hb); have n2_ := Aside0.mk (Kd.R_elder' (by (with_reducible repeat (first | apply Kd.R_alloc | apply Kd.R_drewN | apply Kd.R_drew)); exact (Kd.R_mono (Kd.R_far (p := ⟨gb589, 2, none⟩) (Kd.R_far (p := ⟨gb589, 1, none⟩) (Kd.R_far (p := ⟨gb589, 0, none⟩) (Kd.R_types HO587.out BK589.out (by decide)) (fun _ hk => hk.2) (.int .i64 t583)) (fun _ hk => hk.2) (.int .i64 t584)) (fun _ hk => hk.2) (.slice Ao235 t585.length co235)) (fun _ h_ => h_.1))) (Kd.R_base ho0) hb); have n3_ := Aside0.mk (Kd.R_lower (Kd.R_new' (Kd.R_new' (Kd.R_new' ho0 (Kd.R_lt (by (with_reducible repeat (first | apply Kd.R_alloc | apply Kd.R_drewN | apply Kd.R_drew)); exact (Kd.R_mono (Kd.R_far (p := ⟨gb589, 2, none⟩) (Kd.R_far (p := ⟨gb589, 1, none⟩) (Kd.R_far (p := ⟨gb589, 0, none⟩) (Kd.R_types HO562.out BK589.out (by decide)) (fun _ hk => hk.2) (.int .i64 t583)) (fun _ hk => hk.2) (.int .i64 t584)) (fun _ hk => hk.2) (.slice Ao235 t585.length co235)) (fun _ h_ => h_.1))))) (Kd.R_lt (by (with_reducible repeat (first | apply Kd.R_alloc | apply Kd.R_drewN | apply Kd.R_drew)); exact (Kd.R_mono (Kd.R_far (p := ⟨gb589, 2, none⟩) (Kd.R_far (p := ⟨gb589, 1, none⟩) (Kd.R_far (p := ⟨gb589, 0, none⟩) (Kd.R_types HO582.out BK589.out (by decide)) (fun _ hk => hk.2) (.int .i64 t583)) (fun _ hk => hk.2) (.int .i64 t584)) (fun _ hk => hk.2) (.slice Ao235 t585.length co235)) (fun _ h_ => h_.1))))) (Kd.R_lt (by (with_reducible repeat (first | apply Kd.R_alloc | apply Kd.R_drewN | apply Kd.R_drew)); exact (Kd.R_mono (Kd.R_far (p := ⟨gb589, 2, none⟩) (Kd.R_far (p := ⟨gb589, 1, none⟩) (Kd.R_far (p := ⟨gb589, 0, none⟩) (Kd.R_types HO587.out BK589.out (by decide)) (fun _ hk => hk.2) (.int .i64 t583)) (fun _ hk => hk.2) (.int .i64 t584)) (fun _ hk => hk.2) (.slice Ao235 t585.length co235)) (fun _ h_ => h_.1))))) (below_size (by repeat (first | (with_reducible first | exact HB.out | apply below_alloc | apply pw_below_drewN | apply below_drew1 | refine below_set ?_ GE538.out | refine below_set ?_ GE548.out | refine below_set ?_ GE558.out | refine below_set ?_ GE563.out | refine below_set ?_ GE589.out) | exact HB.out)))); have n4_ := Aside0.mk (blk_below (g := gb538) (o := .cells #[.int .i64 t529, .int .i64 t530, .int .i64 t531, .int .i64 t532, .int .i64 t533, .int .i64 t534, .int .i64 t535, .int .i64 t536] 41 (0, 0)) (by (with_reducible repeat (first | refine blk_drewN ?_ _ | refine blk_drew ?_ | refine blk_alloc ?_ _)); refine blk_far ?_ NB538_589.out _; (with_reducible repeat (first | refine blk_drewN ?_ _ | refine blk_drew ?_ | refine blk_alloc ?_ _)); refine blk_far ?_ NB538_589.out _; (with_reducible repeat (first | refine blk_drewN ?_ _ | refine blk_drew ?_ | refine blk_alloc ?_ _)); refine blk_far ?_ NB538_589.out _; (with_reducible repeat (first | refine blk_drewN ?_ _ | refine blk_drew ?_ | refine blk_alloc ?_ _)); exact BK538.out) hb); have n5_ := Aside0.mk (blk_below (g := gb548) (o := .cells #[.int .i64 t539, .int .i64 t540, .int .i64 t541, .int .i64 t542, .int .i64 t543, .int .i64 t544, .int .i64 t545, .int .i64 t546] 41 (0, 0)) (by (with_reducible repeat (first | refine blk_drewN ?_ _ | refine blk_drew ?_ | refine blk_alloc ?_ _)); refine blk_far ?_ NB548_589.out _; (with_reducible repeat (first | refine blk_drewN ?_ _ | refine blk_drew ?_ | refine blk_alloc ?_ _)); refine blk_far ?_ NB548_589.out _; (with_reducible repeat (first | refine blk_drewN ?_ _ | refine blk_drew ?_ | refine blk_alloc ?_ _)); refine blk_far ?_ NB548_589.out _; (with_reducible repeat (first | refine blk_drewN ?_ _ | refine blk_drew ?_ | refine blk_alloc ?_ _)); exact BK548.out) hb); have n6_ := Aside0.mk (blk_below (g := gb558) (o := .cells #[.int .i64 t549, .int .i64 t550, .int .i64 t551, .int .i64 t552, .int .i64 t553, .int .i64 t554, .int .i64 t555, .int .i64 t556] 41 (0, 0)) (by (with_reducible repeat (first | refine blk_drewN ?_ _ | refine blk_drew ?_ | refine blk_alloc ?_ _)); refine blk_far ?_ NB558_589.out _; (with_reducible repeat (first | refine blk_drewN ?_ _ | refine blk_drew ?_ | refine blk_alloc ?_ _)); refine blk_far ?_ NB558_589.out _; (with_reducible repeat (first | refine blk_drewN ?_ _ | refine blk_drew ?_ | refine blk_alloc ?_ _)); refine blk_far ?_ NB558_589.out _; (with_reducible repeat (first | refine blk_drewN ?_ _ | refine blk_drew ?_ | refine blk_alloc ?_ _)); exact BK558.out) hb); have n7_ := Aside0.mk (blk_below (g := gb563) (o := .cells #[.int .i64 0, .int .i64 t533, .slice Ao225 y580.length co225] 25 (0, 0)) (by (with_reducible repeat (first | refine blk_drewN ?_ _ | refine blk_drew ?_ | refine blk_alloc ?_ _)); refine blk_far ?_ NB563_589.out _; (with_reducible repeat (first | refine blk_drewN ?_ _ | refine blk_drew ?_ | refine blk_alloc ?_ _)); refine blk_far ?_ NB563_589.out _; (with_reducible repeat (first | refine blk_drewN ?_ _ | refine blk_drew ?_ | refine blk_alloc ?_ _)); refine blk_far ?_ NB563_589.out _; (with_reducible repeat (first | refine blk_drewN ?_ _ | refine blk_drew ?_ | refine blk_alloc ?_ _)); exact BK563.out) hb); have n8_ := Aside0.mk (blk_below (g := gb589) (o := .cells #[.int .i64 t583, .int .i64 t584, .slice Ao235 t585.length co235] 25 (0, 0)) (by (with_reducible repeat (first | refine blk_drewN ?_ _ | refine blk_drew ?_ | refine blk_alloc ?_ _)); refine blk_put (cs := #[.int .i64 t583, .int .i64 t584, .slice none 0 0]) ?_ 2 _ rfl; (with_reducible repeat (first | refine blk_drewN ?_ _ | refine blk_drew ?_ | refine blk_alloc ?_ _)); refine blk_put (cs := #[.int .i64 t583, .int .i64 0, .slice none 0 0]) ?_ 1 _ rfl; (with_reducible repeat (first | refine blk_drewN ?_ _ | refine blk_drew ?_ | refine blk_alloc ?_ _)); refine blk_put (cs := #[.int .i64 0, .int .i64 0, .slice none 0 0]) ?_ 0 _ rfl; (with_reducible repeat (first | refine blk_drewN ?_ _ | refine blk_drew ?_ | refine blk_alloc ?_ _)); exact BK589.out) hb); have n9_ := Aside0.mk (below_step (by repeat (first | (with_reducible first | exact HB.out | apply below_alloc | apply pw_below_drewN | apply below_drew1 | refine below_set ?_ GE538.out | refine below_set ?_ GE548.out | refine below_set ?_ GE558.out | refine below_set ?_ GE563.out | refine below_set ?_ GE589.out) | exact HB.out)) hb); clear HO562; clear HO582; clear HO587; clear BK538; clear BK548; clear BK558; clear BK563; clear BK589; clear HB; have HO562 := n0_; have HO582 := n1_; have HO587 := n2_; have HO594 := n3_; have BK538 := n4_; have BK548 := n5_; have BK558 := n6_; have BK563 := n7_; have BK589 := n8_; have HB := n9_; clear n0_ n1_ n2_ n3_ n4_ n5_ n6_ n7_ n8_ n9_; (try clear hb); (try clear hb2); (try clear hk); (try clear hi); (try clear ho0)) | ((with_reducible refine gate_dst (N := 12) rfl ?_); refine box_event ?hg (N := 12) ?hd (cs := #[.int .i64 0, .int .i64 0, .slice none 0 0]) (t := 25) ?hr ?_; (case hd => rfl); (case hg => rfl); (case hr => first | (go_simp; done) | (go_simp; rfl)); intro gb596 hg w239 hbox hb; have n0_ := Aside0.mk (Kd.R_below (by (with_reducible repeat (first | apply Kd.R_alloc | apply Kd.R_drewN | apply Kd.R_drew)); exact HO562.out) hb); have n1_ := Aside0.mk (Kd.R_below (by (with_reducible repeat (first | apply Kd.R_alloc | apply Kd.R_drewN | apply Kd.R_drew)); exact HO582.out) hb); have n2_ := Aside0.mk (Kd.R_below (by (with_reducible repeat (first | apply Kd.R_alloc | apply Kd.R_drewN | apply Kd.R_drew)); exact HO587.out) hb); have n3_ := Aside0.mk (Kd.R_below (by (with_reducible repeat (first | apply Kd.R_alloc | apply Kd.R_drewN | apply Kd.R_drew)); exact HO594.out) hb); have n4_ := Aside0.mk (blk_below (g := gb538) (o := .cells #[.int .i64 t529, .int .i64 t530, .int .i64 t531, .int .i64 t532, .int .i64 t533, .int .i64 t534, .int .i64 t535, .int .i64 t536] 41 (0, 0)) (by (with_reducible repeat (first | refine blk_drewN ?_ _ | refine blk_drew ?_ | refine blk_alloc ?_ _)); exact BK538.out) hb); have n5_ := Aside0.mk (blk_below (g := gb548) (o := .cells #[.int .i64 t539, .int .i64 t540, .int .i64 t541, .int .i64 t542, .int .i64 t543, .int .i64 t544, .int .i64 t545, .int .i64 t546] 41 (0, 0)) (by (with_reducible repeat (first | refine blk_drewN ?_ _ | refine blk_drew ?_ | refine blk_alloc ?_ _)); exact BK548.out) hb); have n6_ := Aside0.mk (blk_below (g := gb558) (o := .cells #[.int .i64 t549, .int .i64 t550, .int .i64 t551, .int .i64 t552, .int .i64 t553, .int .i64 t554, .int .i64 t555, .int .i64 t556] 41 (0, 0)) (by (with_reducible repeat (first | refine blk_drewN ?_ _ | refine blk_drew ?_ | refine blk_alloc ?_ _)); exact BK558.out) hb); have n7_ := Aside0.mk (blk_below (g := gb563) (o := .cells #[.int .i64 0, .int .i64 t533, .slice Ao225 y580.length co225] 25 (0, 0)) (by (with_reducible repeat (first | refine blk_drewN ?_ _ | refine blk_drew ?_ | refine blk_alloc ?_ _)); exact BK563.out) hb); have n8_ := Aside0.mk (blk_below (g := gb589) (o := .cells #[.int .i64 t583, .int .i64 t584, .slice Ao235 t585.length co235] 25 (0, 0)) (by (with_reducible repeat (first | refine blk_drewN ?_ _ | refine blk_drew ?_ | refine blk_alloc ?_ _)); exact BK589.out) hb); have n9_ := Aside0.mk (below_step (by repeat (first | (with_reducible first | exact HB.out | apply below_alloc | apply pw_below_drewN | apply below_drew1 | refine below_set ?_ GE538.out | refine below_set ?_ GE548.out | refine below_set ?_ GE558.out | refine below_set ?_ GE563.out | refine below_set ?_ GE589.out) | exact HB.out)) hb); have n10_ := Aside0.mk (hbox); have n11_ := Aside0.mk ((by rw [hg]; exact (below_size (by repeat (first | (with_reducible first | exact HB.out | apply below_alloc | apply pw_below_drewN | apply below_drew1 | refine below_set ?_ GE538.out | refine below_set ?_ GE548.out | refine below_set ?_ GE558.out | refine below_set ?_ GE563.out | refine below_set ?_ GE589.out) | exact HB.out))) : w.heap.size ≤ gb596)); have n12_ := Aside0.mk ((by rw [hg]; exact (below_size (by repeat (first | (with_reducible first | exact HB.out | apply below_alloc | apply pw_below_drewN | apply below_drew1 | refine below_set ?_ GE538.out | refine below_set ?_ GE548.out | refine below_set ?_ GE558.out | refine below_set ?_ GE563.out | refine below_set ?_ GE589.out) | exact HB.out))) : w.heap.size ≤ gb596)); have n13_ := Aside0.mk ((by rw [hg]; exact Nat.ne_of_lt (blk_lt (g := gb538) (o := .cells #[.int .i64 t529, .int .i64 t530, .int .i64 t531, .int .i64 t532, .int .i64 t533, .int .i64 t534, .int .i64 t535, .int .i64 t536] 41 (0, 0)) (by (with_reducible repeat (first | refine blk_drewN ?_ _ | refine blk_drew ?_ | refine blk_alloc ?_ _)); exact BK538.out)) : gb538 ≠ gb596)); have n14_ := Aside0.mk ((by rw [hg]; exact Nat.ne_of_gt (blk_lt (g := gb538) (o := .cells #[.int .i64 t529, .int .i64 t530, .int .i64 t531, .int .i64 t532, .int .i64 t533, .int .i64 t534, .int .i64 t535, .int .i64 t536] 41 (0, 0)) (by (with_reducible repeat (first | refine blk_drewN ?_ _ | refine blk_drew ?_ | refine blk_alloc ?_ _)); exact BK538.out)) : gb596 ≠ gb538)); have n15_ := Aside0.mk ((by rw [hg]; exact Nat.ne_of_lt (blk_lt (g := gb548) (o := .cells #[.int .i64 t539, .int .i64 t540, .int .i64 t541, .int .i64 t542, .int .i64 t543, .int .i64 t544, .int .i64 t545, .int .i64 t546] 41 (0, 0)) (by (with_reducible repeat (first | refine blk_drewN ?_ _ | refine blk_drew ?_ | refine blk_alloc ?_ _)); exact BK548.out)) : gb548 ≠ gb596)); have n16_ := Aside0.mk ((by rw [hg]; exact Nat.ne_of_gt (blk_lt (g := gb548) (o := .cells #[.int .i64 t539, .int .i64 t540, .int .i64 t541, .int .i64 t542, .int .i64 t543, .int .i64 t544, .int .i64 t545, .int .i64 t546] 41 (0, 0)) (by (with_reducible repeat (first | refine blk_drewN ?_ _ | refine blk_drew ?_ | refine blk_alloc ?_ _)); exact BK548.out)) : gb596 ≠ gb548)); have n17_ := Aside0.mk ((by rw [hg]; exact Nat.ne_of_lt (blk_lt (g := gb558) (o := .cells #[.int .i64 t549, .int .i64 t550, .int .i64 t551, .int .i64 t552, .int .i64 t553, .int .i64 t554, .int .i64 t555, .int .i64 t556] 41 (0, 0)) (by (with_reducible repeat (first | refine blk_drewN ?_ _ | refine blk_drew ?_ | refine blk_alloc ?_ _)); exact BK558.out)) : gb558 ≠ gb596)); have n18_ := Aside0.mk ((by rw [hg]; exact Nat.ne_of_gt (blk_lt (g := gb558) (o := .cells #[.int .i64 t549, .int .i64 t550, .int .i64 t551, .int .i64 t552, .int .i64 t553, .int .i64 t554, .int .i64 t555, .int .i64 t556] 41 (0, 0)) (by (with_reducible repeat (first | refine blk_drewN ?_ _ | refine blk_drew ?_ | refine blk_alloc ?_ _)); exact BK558.out)) : gb596 ≠ gb558)); have n19_ := Aside0.mk ((by rw [hg]; exact Nat.ne_of_lt (blk_lt (g := gb563) (o := .cells #[.int .i64 0, .int .i64 t533, .slice Ao225 y580.length co225] 25 (0, 0)) (by (with_reducible repeat (first | refine blk_drewN ?_ _ | refine blk_drew ?_ | refine blk_alloc ?_ _)); exact BK563.out)) : gb563 ≠ gb596)); have n20_ := Aside0.mk ((by rw [hg]; exact Nat.ne_of_gt (blk_lt (g := gb563) (o := .cells #[.int .i64 0, .int .i64 t533, .slice Ao225 y580.length co225] 25 (0, 0)) (by (with_reducible repeat (first | refine blk_drewN ?_ _ | refine blk_drew ?_ | refine blk_alloc ?_ _)); exact BK563.out)) : gb596 ≠ gb563)); have n21_ := Aside0.mk ((by rw [hg]; exact Nat.ne_of_lt (blk_lt (g := gb589) (o := .cells #[.int .i64 t583, .int .i64 t584, .slice Ao235 t585.length co235] 25 (0, 0)) (by (with_reducible repeat (first | refine blk_drewN ?_ _ | refine blk_drew ?_ | refine blk_alloc ?_ _)); exact BK589.out)) : gb589 ≠ gb596)); have n22_ := Aside0.mk ((by rw [hg]; exact Nat.ne_of_gt (blk_lt (g := gb589) (o := .cells #[.int .i64 t583, .int .i64 t584, .slice Ao235 t585.length co235] 25 (0, 0)) (by (with_reducible repeat (first | refine blk_drewN ?_ _ | refine blk_drew ?_ | refine blk_alloc ?_ _)); exact BK589.out)) : gb596 ≠ gb589)); clear HO562; clear HO582; clear HO587; clear HO594; clear BK538; clear BK548; clear BK558; clear BK563; clear BK589; clear HB; have HO562 := n0_; have HO582 := n1_; have HO587 := n2_; have HO594 := n3_; have BK538 := n4_; have BK548 := n5_; have BK558 := n6_; have BK563 := n7_; have BK589 := n8_; have HB := n9_; have BK596 := n10_; have GW596 := n11_; have GE596 := n12_; have NB538_596 := n13_; have NB596_538 := n14_; have NB548_596 := n15_; have NB596_548 := n16_; have NB558_596 := n17_; have NB596_558 := n18_; have NB563_596 := n19_; have NB596_563 := n20_; have NB589_596 := n21_; have NB596_589 := n22_; clear n0_ n1_ n2_ n3_ n4_ n5_ n6_ n7_ n8_ n9_ n10_ n11_ n12_ n13_ n14_ n15_ n16_ n17_ n18_ n19_ n20_ n21_ n22_; clear hb hbox hg; have hnb240 := NB596_538.out; have hnc240 := NB538_596.out; have hnb241 := NB596_548.out; have hnc241 := NB548_596.out; have hnb242 := NB596_558.out; have hnc242 := NB558_596.out; have hnb243 := NB596_563.out; have hnc243 := NB563_596.out; have hnb244 := NB596_589.out; have hnc244 := NB589_596.out; have hcz245_0 : w239.cell? ⟨gb596, 0, none⟩ = some (.int .i64 0) := (blk_cell BK596.out 0).trans rfl; have hcz245_1 : w239.cell? ⟨gb596, 1, none⟩ = some (.int .i64 0) := (blk_cell BK596.out 1).trans rfl; have hcz245_2 : w239.cell? ⟨gb596, 2, none⟩ = some (.slice none 0 0) := (blk_cell BK596.out 2).trans rfl; have hfz245_0 := blk_frozen BK596.out 0; have hfz245_1 := blk_frozen BK596.out 1; have hfz245_2 := blk_frozen BK596.out 2; obtain ⟨Ao246, co246, eo246⟩ := Kd.R_slice HO594.out; subst eo246; have hcz247_0 : w239.cell? ⟨gb563, 0, none⟩ = some (.int .i64 0) := (blk_cell BK563.out 0).trans rfl; have hcz247_1 : w239.cell? ⟨gb563, 1, none⟩ = some (.int .i64 t533) := (blk_cell BK563.out 1).trans rfl; have hcz247_2 : w239.cell? ⟨gb563, 2, none⟩ = some (.slice Ao225 y580.length co225) := (blk_cell BK563.out 2).trans rfl; have hfz247_0 := blk_frozen BK563.out 0; have hfz247_1 := blk_frozen BK563.out 1; have hfz247_2 := blk_frozen BK563.out 2) | (go_at_call 43; (with_reducible refine (laws_ltHas.calls kj38 t590 t591 _ _ t592 0 t533 _ _ y580 t597 _ ?side1 ?side2 ?side3 ?side4 A211.out).mono ?_); (case side1 => refine (Kd.R_reads' (e := 3) (base := w.heap.size) (ok := fun k_ => (((True ∧ some k_ ≠ (.slice Ao214 y560.length co214 : Value).ownBlock) ∧ some k_ ≠ (.slice Ao225 y580.length co225 : Value).ownBlock) ∧ some k_ ≠ (.slice Ao235 t585.length co235 : Value).ownBlock)) (n := t592.length) (c := co246) ?_).2.2; exact (by (with_reducible repeat (first | apply Kd.R_alloc | apply Kd.R_drewN | apply Kd.R_drew)); exact (Kd.R_mono (Kd.R_far (p := ⟨gb596, 2, none⟩) (Kd.R_far (p := ⟨gb596, 1, none⟩) (Kd.R_far (p := ⟨gb596, 0, none⟩) (Kd.R_types HO594.out BK596.out (by decide)) (fun _ hk => hk.2) (.int .i64 t590)) (fun _ hk => hk.2) (.int .i64 t591)) (fun _ hk => hk.2) (.slice Ao246 t592.length co246)) (fun _ h_ => h_.1)))); (case side2 => exact (Kd.R_reads' HO594.out).2.1); (case side3 => refine (Kd.R_reads' (e := 3) (base := w.heap.size) (ok := fun k_ => (((True ∧ some k_ ≠ (.slice Ao214 y560.length co214 : Value).ownBlock) ∧ some k_ ≠ (.slice Ao235 t585.length co235 : Value).ownBlock) ∧ some k_ ≠ (.slice Ao246 t592.length co246 : Value).ownBlock)) (n := y580.length) (c := co225) ?_).2.2; exact (by (with_reducible repeat (first | apply Kd.R_alloc | apply Kd.R_drewN | apply Kd.R_drew)); exact (Kd.R_mono (Kd.R_far (p := ⟨gb596, 2, none⟩) (Kd.R_far (p := ⟨gb596, 1, none⟩) (Kd.R_far (p := ⟨gb596, 0, none⟩) (Kd.R_types HO582.out BK596.out (by decide)) (fun _ hk => hk.2) (.int .i64 t590)) (fun _ hk => hk.2) (.int .i64 t591)) (fun _ hk => hk.2) (.slice Ao246 t592.length co246)) (fun _ h_ => h_.1)))); (case side4 => exact (Kd.R_reads' HO582.out).2.1); rintro e w248 ⟨rfl, hb⟩; have n0_ := Aside0.mk (Kd.R_below (by (with_reducible repeat (first | apply Kd.R_alloc | apply Kd.R_drewN | apply Kd.R_drew)); exact (Kd.R_mono (Kd.R_far (p := ⟨gb596, 2, none⟩) (Kd.R_far (p := ⟨gb596, 1, none⟩) (Kd.R_far (p := ⟨gb596, 0, none⟩) (Kd.R_types HO562.out BK596.out (by decide)) (fun _ hk => hk.2) (.int .i64 t590)) (fun _ hk => hk.2) (.int .i64 t591)) (fun _ hk => hk.2) (.slice Ao246 t592.length co246)) (fun _ h_ => h_.1))) hb); have n1_ := Aside0.mk (Kd.R_below (by (with_reducible repeat (first | apply Kd.R_alloc | apply Kd.R_drewN | apply Kd.R_drew)); exact (Kd.R_mono (Kd.R_far (p := ⟨gb596, 2, none⟩) (Kd.R_far (p := ⟨gb596, 1, none⟩) (Kd.R_far (p := ⟨gb596, 0, none⟩) (Kd.R_types HO582.out BK596.out (by decide)) (fun _ hk => hk.2) (.int .i64 t590)) (fun _ hk => hk.2) (.int .i64 t591)) (fun _ hk => hk.2) (.slice Ao246 t592.length co246)) (fun _ h_ => h_.1))) hb); have n2_ := Aside0.mk (Kd.R_below (by (with_reducible repeat (first | apply Kd.R_alloc | apply Kd.R_drewN | apply Kd.R_drew)); exact (Kd.R_mono (Kd.R_far (p := ⟨gb596, 2, none⟩) (Kd.R_far (p := ⟨gb596, 1, none⟩) (Kd.R_far (p := ⟨gb596, 0, none⟩) (Kd.R_types HO587.out BK596.out (by decide)) (fun _ hk => hk.2) (.int .i64 t590)) (fun _ hk => hk.2) (.int .i64 t591)) (fun _ hk => hk.2) (.slice Ao246 t592.length co246)) (fun _ h_ => h_.1))) hb); have n3_ := Aside0.mk (Kd.R_below (by (with_reducible repeat (first | apply Kd.R_alloc | apply Kd.R_drewN | apply Kd.R_drew)); exact (Kd.R_mono (Kd.R_far (p := ⟨gb596, 2, none⟩) (Kd.R_far (p := ⟨gb596, 1, none⟩) (Kd.R_far (p := ⟨gb596, 0, none⟩) (Kd.R_types HO594.out BK596.out (by decide)) (fun _ hk => hk.2) (.int .i64 t590)) (fun _ hk => hk.2) (.int .i64 t591)) (fun _ hk => hk.2) (.slice Ao246 t592.length co246)) (fun _ h_ => h_.1))) hb); have n4_ := Aside0.mk (blk_below (g := gb538) (o := .cells #[.int .i64 t529, .int .i64 t530, .int .i64 t531, .int .i64 t532, .int .i64 t533, .int .i64 t534, .int .i64 t535, .int .i64 t536] 41 (0, 0)) (by (with_reducible repeat (first | refine blk_drewN ?_ _ | refine blk_drew ?_ | refine blk_alloc ?_ _)); refine blk_far ?_ NB538_596.out _; (with_reducible repeat (first | refine blk_drewN ?_ _ | refine blk_drew ?_ | refine blk_alloc ?_ _)); refine blk_far ?_ NB538_596.out _; (with_reducible repeat (first | refine blk_drewN ?_ _ | refine blk_drew ?_ | refine blk_alloc ?_ _)); refine blk_far ?_ NB538_596.out _; (with_reducible repeat (first | refine blk_drewN ?_ _ | refine blk_drew ?_ | refine blk_alloc ?_ _)); exact BK538.out) hb); have n5_ := Aside0.mk (blk_below (g := gb548) (o := .cells #[.int .i64 t539, .int .i64 t540, .int .i64 t541, .int .i64 t542, .int .i64 t543, .int .i64 t544, .int .i64 t545, .int .i64 t546] 41 (0, 0)) (by (with_reducible repeat (first | refine blk_drewN ?_ _ | refine blk_drew ?_ | refine blk_alloc ?_ _)); refine blk_far ?_ NB548_596.out _; (with_reducible repeat (first | refine blk_drewN ?_ _ | refine blk_drew ?_ | refine blk_alloc ?_ _)); refine blk_far ?_ NB548_596.out _; (with_reducible repeat (first | refine blk_drewN ?_ _ | refine blk_drew ?_ | refine blk_alloc ?_ _)); refine blk_far ?_ NB548_596.out _; (with_reducible repeat (first | refine blk_drewN ?_ _ | refine blk_drew ?_ | refine blk_alloc ?_ _)); exact BK548.out) hb); have n6_ := Aside0.mk (blk_below (g := gb558) (o := .cells #[.int .i64 t549, .int .i64 t550, .int .i64 t551, .int .i64 t552, .int .i64 t553, .int .i64 t554, .int .i64 t555, .int .i64 t556] 41 (0, 0)) (by (with_reducible repeat (first | refine blk_drewN ?_ _ | refine blk_drew ?_ | refine blk_alloc ?_ _)); refine blk_far ?_ NB558_596.out _; (with_reducible repeat (first | refine blk_drewN ?_ _ | refine blk_drew ?_ | refine blk_alloc ?_ _)); refine blk_far ?_ NB558_596.out _; (with_reducible repeat (first | refine blk_drewN ?_ _ | refine blk_drew ?_ | refine blk_alloc ?_ _)); refine blk_far ?_ NB558_596.out _; (with_reducible repeat (first | refine blk_drewN ?_ _ | refine blk_drew ?_ | refine blk_alloc ?_ _)); exact BK558.out) hb); have n7_ := Aside0.mk (blk_below (g := gb563) (o := .cells #[.int .i64 0, .int .i64 t533, .slice Ao225 y580.length co225] 25 (0, 0)) (by (with_reducible repeat (first | refine blk_drewN ?_ _ | refine blk_drew ?_ | refine blk_alloc ?_ _)); refine blk_far ?_ NB563_596.out _; (with_reducible repeat (first | refine blk_drewN ?_ _ | refine blk_drew ?_ | refine blk_alloc ?_ _)); refine blk_far ?_ NB563_596.out _; (with_reducible repeat (first | refine blk_drewN ?_ _ | refine blk_drew ?_ | refine blk_alloc ?_ _)); refine blk_far ?_ NB563_596.out _; (with_reducible repeat (first | refine blk_drewN ?_ _ | refine blk_drew ?_ | refine blk_alloc ?_ _)); exact BK563.out) hb); have n8_ := Aside0.mk (blk_below (g := gb589) (o := .cells #[.int .i64 t583, .int .i64 t584, .slice Ao235 t585.length co235] 25 (0, 0)) (by (with_reducible repeat (first | refine blk_drewN ?_ _ | refine blk_drew ?_ | refine blk_alloc ?_ _)); refine blk_far ?_ NB589_596.out _; (with_reducible repeat (first | refine blk_drewN ?_ _ | refine blk_drew ?_ | refine blk_alloc ?_ _)); refine blk_far ?_ NB589_596.out _; (with_reducible repeat (first | refine blk_drewN ?_ _ | refine blk_drew ?_ | refine blk_alloc ?_ _)); refine blk_far ?_ NB589_596.out _; (with_reducible repeat (first | refine blk_drewN ?_ _ | refine blk_drew ?_ | refine blk_alloc ?_ _)); exact BK589.out) hb); have n9_ := Aside0.mk (blk_below (g := gb596) (o := .cells #[.int .i64 t590, .int .i64 t591, .slice Ao246 t592.length co246] 25 (0, 0)) (by (with_reducible repeat (first | refine blk_drewN ?_ _ | refine blk_drew ?_ | refine blk_alloc ?_ _)); refine blk_put (cs := #[.int .i64 t590, .int .i64 t591, .slice none 0 0]) ?_ 2 _ rfl; (with_reducible repeat (first | refine blk_drewN ?_ _ | refine blk_drew ?_ | refine blk_alloc ?_ _)); refine blk_put (cs := #[.int .i64 t590, .int .i64 0, .slice none 0 0]) ?_ 1 _ rfl; (with_reducible repeat (first | refine blk_drewN ?_ _ | refine blk_drew ?_ | refine blk_alloc ?_ _)); refine blk_put (cs := #[.int .i64 0, .int .i64 0, .slice none 0 0]) ?_ 0 _ rfl; (with_reducible repeat (first | refine blk_drewN ?_ _ | refine blk_drew ?_ | refine blk_alloc ?_ _)); exact BK596.out) hb); have n10_ := Aside0.mk (below_step (by repeat (first | (with_reducible first | exact HB.out | apply below_alloc | apply pw_below_drewN | apply below_drew1 | refine below_set ?_ GE538.out | refine below_set ?_ GE548.out | refine below_set ?_ GE558.out | refine below_set ?_ GE563.out | refine below_set ?_ GE589.out | refine below_set ?_ GE596.out) | exact HB.out)) hb); clear HO562; clear HO582; clear HO587; clear HO594; clear BK538; clear BK548; clear BK558; clear BK563; clear BK589; clear BK596; clear HB; have HO562 := n0_; have HO582 := n1_; have HO587 := n2_; have HO594 := n3_; have BK538 := n4_; have BK548 := n5_; have BK558 := n6_; have BK563 := n7_; have BK589 := n8_; have BK596 := n9_; have HB := n10_; clear n0_ n1_ n2_ n3_ n4_ n5_ n6_ n7_ n8_ n9_ n10_; (try clear hb); (try clear hb2); (try clear hk); (try clear hi)))
                      go_ret
                      exact ⟨by first | rfl | (simp [errW_none, errW_some] <;> rfl) | (simp [*, errW_none, errW_some] <;> rfl), by repeat (first | (with_reducible first | exact HB.out | apply below_alloc | apply pw_below_drewN | apply below_drew1 | refine below_set ?_ GE538.out | refine below_set ?_ GE548.out | refine below_set ?_ GE558.out | refine below_set ?_ GE563.out | refine below_set ?_ GE589.out | refine below_set ?_ GE596.out) | exact HB.out)⟩
                    · replace c210 := Bool.eq_false_iff.mpr c210
                      subst c210
                      have H1 : (some false) = some r := by rw [if_neg (show ¬ (false = true) by decide)] at H; exact H
                      clear H
                      have H := H1
                      clear H1
                      obtain rfl := Option.some.inj H
                      exact absurd hT_.out (by simp)
                  · replace c209 := Bool.eq_false_iff.mpr c209
                    subst c209
                    have H1 : (some false) = some r := by rw [if_neg (show ¬ (false = true) by decide)] at H; exact H
                    clear H
                    have H := H1
                    clear H1
                    obtain rfl := Option.some.inj H
                    exact absurd hT_.out (by simp)
end Go.Proofs.Ytcefiblpnegepaa.Pr
