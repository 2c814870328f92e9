import Derived.Test.YtcefiblpnegepaaQBByq
import Derived.Test.YtcefiblpnegepaaQBSx
import Derived.Test.YtcefiblpnegepaaQBLast
import Derived.Test.YtcefiblpnegepaaQBPrLO2
import Derived.Test.YtcefiblpnegepaaQBLChainP
namespace Go.Proofs.Ytcefiblpnegepaa.Pr
open Go.RowKit Go.PW Go.PL Go.PM
attribute [local go_sem] Y3 Y4 YV YW Yk Yl Y5 Y6
set_option linter.unusedVariables false
set_option linter.unusedSimpArgs false
def Xv.f (k : Nat) (l0 : List (S41)) (a1 : Int) : Option (Int) := (Xw.f k l0).bind fun XdE => (if XdE = true then ((JQ.f k l0 a1).bind fun ER => (some ER)) else (some 0))
set_option maxHeartbeats 8000000 in
set_option maxRecDepth 100000 in
theorem Xv.calls (k : Nat) (A0 : Option Addr) (c0 : Nat) (l0 : List (S41)) (a1 : Int) (r : Int) (w : World) (hr0 : Kd.C k41 w A0 l0.length l0) (hc0 : l0.length ≤ c0) (h : Xv.f k l0 a1 = some r) :
    Calls Try.prog 37 #[.slice A0 l0.length c0, .int .i64 a1] w fun e w' => e = .returned (.int .i64 r) ∧ Below w.heap.size w w' := by
  have HR0 := zz hr0; have HC0 := zz hc0; clear hr0 hc0; have HB := zz (Below.refl w.heap.size w); have H : ((Xw.f k l0).bind fun XdE => (if XdE = true then ((JQ.f k l0 a1).bind fun ER => (some ER)) else (some 0))) = some r := h; clear h; replace H := Option.bind_eq_some_iff.mp H; obtain ⟨XdE, A30, H⟩ := H; replace H : (if XdE = true then ((JQ.f k l0 a1).bind fun ER => (some ER)) else (some 0)) = some r := H; have A3 := zz A30; clear A30
  by_cases c4 : XdE = true
  · subst c4
    have H1 : ((JQ.f k l0 a1).bind fun ER => (some ER)) = some r := by rw [if_pos rfl] at H; exact H
    clear H; have H := H1; clear H1; replace H := Option.bind_eq_some_iff.mp H; obtain ⟨ER, A50, H⟩ := H; replace H : (some ER) = some r := H; have A5 := zz A50; clear A50; obtain rfl := Option.some.inj H
    go_enter Try.func37, Try.ntmps37
    go_wp2_with (first | ((with_reducible refine Xg (f := 34) rfl ?_); refine X6 (some 6) rfl rfl Try.func34 zb13 rfl #[.slice A0 l0.length c0] rfl zb0 ?_; (with_reducible refine (Xw.calls k _ _ l0 true _ ?side1 ?side2 A3.out).mono ?_); (case side1 => exact zb23); (case side2 => exact HC0.out); rintro e w6 ⟨rfl, hb⟩; refine ⟨_, rfl, ?_⟩; have n0_ := zz (Xe zb5 hb); clear HB; have HB := n0_; clear n0_; (try clear hb); (try clear hb2); (try clear hk); (try clear hi)) | ((with_reducible refine Xg (f := 87) rfl ?_); refine X6 (some 10) rfl rfl Try.func87 zb13 rfl #[.slice A0 l0.length c0, .int .i64 a1] rfl zb0 ?_; (with_reducible refine (JQ.calls k _ _ l0 a1 ER _ ?side1 ?side2 A5.out).mono ?_); (case side1 => exact zb16); (case side2 => exact HC0.out); rintro e w7 ⟨rfl, hb⟩; refine ⟨_, rfl, ?_⟩; have n0_ := zz (Xe zb5 hb); clear HB; have HB := n0_; clear n0_; (try clear hb); (try clear hb2); (try clear hk); (try clear hi)))
    go_ret
    exact ⟨zb11, zb5⟩
  · replace c4 := Bool.eq_false_iff.mpr c4
    subst c4
    have H1 : (some 0) = some r := by rw [if_neg (show ¬ (false = true) by decide)] at H; exact H
    clear H; have H := H1; clear H1; obtain rfl := Option.some.inj H
    go_enter Try.func37, Try.ntmps37
    go_wp2_with (first | ((with_reducible refine Xg (f := 34) rfl ?_); refine X6 (some 6) rfl rfl Try.func34 zb13 rfl #[.slice A0 l0.length c0] rfl zb0 ?_; (with_reducible refine (Xw.calls k _ _ l0 false _ ?side1 ?side2 A3.out).mono ?_); (case side1 => exact zb23); (case side2 => exact HC0.out); rintro e w8 ⟨rfl, hb⟩; refine ⟨_, rfl, ?_⟩; have n0_ := zz (Xe zb5 hb); clear HB; have HB := n0_; clear n0_; (try clear hb); (try clear hb2); (try clear hk); (try clear hi)))
    go_ret
    exact ⟨zb11, zb5⟩
end Go.Proofs.Ytcefiblpnegepaa.Pr
namespace Go.Proofs.Ytcefiblpnegepaa.T
open Go.RowKit Go.PW Go.Proofs.Ytcefiblpnegepaa.Pr
set_option linter.unusedSimpArgs false
set_option linter.unusedVariables false
theorem F7 (l : List S41) (a : Int) (hl : l.length ≤ 9223372036854775807) (k : Nat) (hk : 3 * l.length + 4 < k) : Xv.f k l a = some (if Yz l = true then lastB l a else 0) := by
  unfold Xv.f JQ.f
  rw [Df l hl k hk]; simp only [Option.bind_some]
  cases Yz l <;> rfl
end Go.Proofs.Ytcefiblpnegepaa.T
