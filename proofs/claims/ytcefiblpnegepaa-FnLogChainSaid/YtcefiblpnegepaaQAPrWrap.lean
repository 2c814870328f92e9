import Derived.Test.YtcefiblpnegepaaQAByq
import Derived.Test.YtcefiblpnegepaaQASq
import Derived.Test.YtcefiblpnegepaaQASx
import Derived.Test.YtcefiblpnegepaaQADLog
namespace Go.Proofs.Ytcefiblpnegepaa.Pr
open Go.RowKit Go.PW Go.PL Go.PM
attribute [local go_sem] YB YC Zc Zd Yn Yo YD YE
set_option linter.unusedVariables false
set_option linter.unusedSimpArgs false
def JU.f (k : Nat) (l0 : List Int) : Option ((List (S41)) × Int) := (X6.f k l0).bind fun XaP => (some (XaP.1, XaP.2))
set_option maxHeartbeats 8000000 in
set_option maxRecDepth 100000 in
theorem JU.calls (k : Nat) (A0 : Option Addr) (c0 : Nat) (l0 : List Int) (r1 : List (S41)) (r2 : Int) (w : World) (hr0 : Kd.C (Kd.int .u8) w A0 l0.length l0) (hc0 : l0.length ≤ c0) (h : JU.f k l0 = some (r1, r2)) :
    Calls Try.prog 69 #[.slice A0 l0.length c0] w fun e w' => ∃ v0_ : Value, e = .returned (.tuple #[v0_, .int .i64 r2]) ∧ Kd.Q k41 41 w' w.heap.size (fun _ => True) v0_ r1 ∧ Below w.heap.size w w' := by
  have HR0 := zz hr0; have HC0 := zz hc0; clear hr0 hc0; have HB := zz (Below.refl w.heap.size w); have H : ((X6.f k l0).bind fun XaP => (some (XaP.1, XaP.2))) = some (r1, r2) := h; clear h; replace H := Option.bind_eq_some_iff.mp H; obtain ⟨⟨t284, t285⟩, A20, H⟩ := H; replace H : (some (t284, t285)) = some (r1, r2) := H; have A2 := zz A20; clear A20; simp only [Option.some.injEq, Prod.mk.injEq] at H; obtain ⟨rfl, rfl⟩ := H
  go_enter Try.func69, Try.ntmps69
  go_wp2_with (first | ((with_reducible refine Xg (f := 68) rfl ?_); refine Xz (some 5) rfl rfl Try.func68 zb14 rfl #[.slice A0 l0.length c0] rfl zb0 ?_; (with_reducible refine (X6.calls k _ _ l0 t284 t285 _ ?side1 ?side2 A2.out).mono ?_); (case side1 => exact zb17); (case side2 => exact HC0.out); rintro e w3 ⟨v286, rfl, ho0, hb⟩; refine ⟨_, rfl, ?_⟩; have n0_ := zz (Kd.Pj ho0 (Xr zb4)); have n1_ := zz (Xe zb4 hb); clear HB; have XtI := n0_; have HB := n1_; clear n0_ n1_; (try clear hb); (try clear hb2); (try clear hk); (try clear hi); (try clear ho0)))
  go_ret2
  exact ⟨_, zb8, by (with_reducible repeat (first | apply Kd.Me | apply Kd.Mf | apply Kd.SA)); exact XtI.out, zb4⟩
def Vm.f (k : Nat) (l0 : List Int) : Option ((List (S41))) := (X6.f k l0).bind fun XgX => (some XgX.1)
set_option maxHeartbeats 8000000 in
set_option maxRecDepth 100000 in
theorem Vm.calls (k : Nat) (A0 : Option Addr) (c0 : Nat) (l0 : List Int) (r : List (S41)) (w : World) (hr0 : Kd.C (Kd.int .u8) w A0 l0.length l0) (hc0 : l0.length ≤ c0) (h : Vm.f k l0 = some r) :
    Calls Try.prog 70 #[.slice A0 l0.length c0] w fun e w' => ∃ v0_ : Value, e = .returned (v0_) ∧ Kd.Q k41 41 w' w.heap.size (fun _ => True) v0_ r ∧ Below w.heap.size w w' := by
  have HR0 := zz hr0; have HC0 := zz hc0; clear hr0 hc0; have HB := zz (Below.refl w.heap.size w); have H : ((X6.f k l0).bind fun XgX => (some XgX.1)) = some r := h; clear h; replace H := Option.bind_eq_some_iff.mp H; obtain ⟨⟨t325, t326⟩, A20, H⟩ := H; replace H : (some t325) = some r := H; have A2 := zz A20; clear A20; obtain rfl := Option.some.inj H
  go_enter Try.func70, Try.ntmps70
  go_wp2_with (first | ((with_reducible refine Xg (f := 68) rfl ?_); refine Xz (some 7) rfl rfl Try.func68 zb14 rfl #[.slice A0 l0.length c0] rfl zb0 ?_; (with_reducible refine (X6.calls k _ _ l0 t325 t326 _ ?side1 ?side2 A2.out).mono ?_); (case side1 => exact zb17); (case side2 => exact HC0.out); rintro e w3 ⟨v327, rfl, ho0, hb⟩; refine ⟨_, rfl, ?_⟩; have n0_ := zz (Kd.Pj ho0 (Xr zb4)); have n1_ := zz (Xe zb4 hb); clear HB; have XtJ := n0_; have HB := n1_; clear n0_ n1_; (try clear hb); (try clear hb2); (try clear hk); (try clear hi); (try clear ho0)))
  go_ret
  exact ⟨_, zb8, by (with_reducible repeat (first | apply Kd.Me | apply Kd.Mf | apply Kd.SA)); exact XtJ.out, zb4⟩
end Go.Proofs.Ytcefiblpnegepaa.Pr
