import Derived.Test.YtcefiblpnegepaaQAByq
import Derived.Test.YtcefiblpnegepaaQASx
import Derived.Test.YtcefiblpnegepaaQALast
import Derived.Test.YtcefiblpnegepaaQALogP
import Derived.Test.YtcefiblpnegepaaQALOpenP
namespace Go.Proofs.Ytcefiblpnegepaa.Pr
open Go.RowKit Go.PW Go.PL Go.PM
attribute [local go_sem] YB YC Zc Zd Yn Yo YD YE
set_option linter.unusedVariables false
set_option linter.unusedSimpArgs false
def Jh.f (k : Nat) (l0 : List (S41)) (a1 : Int) : Option (Int) := (Xi.f k l0).bind fun Xel => (if Xel = true then ((Xn.f k l0 a1).bind fun YV => (some YV)) else (some 0))
set_option maxHeartbeats 8000000 in
set_option maxRecDepth 100000 in
theorem Jh.calls (k : Nat) (A0 : Option Addr) (c0 : Nat) (l0 : List (S41)) (a1 : Int) (r : Int) (w : World) (hr0 : Kd.C k41 w A0 l0.length l0) (hc0 : l0.length ≤ c0) (h : Jh.f k l0 a1 = some r) :
    Calls Try.prog 36 #[.slice A0 l0.length c0, .int .i64 a1] w fun e w' => e = .returned (.int .i64 r) ∧ Below w.heap.size w w' := by
  have HR0 := zz hr0; have HC0 := zz hc0; clear hr0 hc0; have HB := zz (Below.refl w.heap.size w); have H : ((Xi.f k l0).bind fun Xel => (if Xel = true then ((Xn.f k l0 a1).bind fun YV => (some YV)) else (some 0))) = some r := h; clear h; replace H := Option.bind_eq_some_iff.mp H; obtain ⟨Xel, A30, H⟩ := H; replace H : (if Xel = true then ((Xn.f k l0 a1).bind fun YV => (some YV)) else (some 0)) = some r := H; have A3 := zz A30; clear A30
  by_cases c4 : Xel = true
  · subst c4
    have H1 : ((Xn.f k l0 a1).bind fun YV => (some YV)) = some r := by rw [if_pos rfl] at H; exact H
    clear H; have H := H1; clear H1; replace H := Option.bind_eq_some_iff.mp H; obtain ⟨YV, A50, H⟩ := H; replace H : (some YV) = some r := H; have A5 := zz A50; clear A50; obtain rfl := Option.some.inj H
    go_enter Try.func36, Try.ntmps36
    go_wp2_with (first | ((with_reducible refine Xg (f := 32) rfl ?_); refine Xz (some 6) rfl rfl Try.func32 zb14 rfl #[.slice A0 l0.length c0] rfl zb0 ?_; (with_reducible refine (Xi.calls k _ _ l0 true _ ?side1 ?side2 A3.out).mono ?_); (case side1 => exact zb17); (case side2 => exact HC0.out); rintro e w6 ⟨rfl, hb⟩; refine ⟨_, rfl, ?_⟩; have n0_ := zz (Xe zb4 hb); clear HB; have HB := n0_; clear n0_; (try clear hb); (try clear hb2); (try clear hk); (try clear hi)) | ((with_reducible refine Xg (f := 84) rfl ?_); refine Xz (some 10) rfl rfl Try.func84 zb14 rfl #[.slice A0 l0.length c0, .int .i64 a1] rfl zb0 ?_; (with_reducible refine (Xn.calls k _ _ l0 a1 YV _ ?side1 ?side2 A5.out).mono ?_); (case side1 => exact zb15); (case side2 => exact HC0.out); rintro e w' ⟨rfl, ⟨nd, rfl⟩⟩; refine ⟨_, rfl, ?_⟩))
    go_ret
    exact ⟨zb8, zb4⟩
  · replace c4 := Bool.eq_false_iff.mpr c4
    subst c4
    have H1 : (some 0) = some r := by rw [if_neg (show ¬ (false = true) by decide)] at H; exact H
    clear H; have H := H1; clear H1; obtain rfl := Option.some.inj H
    go_enter Try.func36, Try.ntmps36
    go_wp2_with (first | ((with_reducible refine Xg (f := 32) rfl ?_); refine Xz (some 6) rfl rfl Try.func32 zb14 rfl #[.slice A0 l0.length c0] rfl zb0 ?_; (with_reducible refine (Xi.calls k _ _ l0 false _ ?side1 ?side2 A3.out).mono ?_); (case side1 => exact zb17); (case side2 => exact HC0.out); rintro e w7 ⟨rfl, hb⟩; refine ⟨_, rfl, ?_⟩; have n0_ := zz (Xe zb4 hb); clear HB; have HB := n0_; clear n0_; (try clear hb); (try clear hb2); (try clear hk); (try clear hi)))
    go_ret
    exact ⟨zb8, zb4⟩
def Y5.f (k : Nat) (l0 : List (S41)) (a1 : Int) : Option (Int) := (Xq.f k l0).bind fun Yv => (if Yv = true then ((Jv.f k l0 a1).bind fun O5 => (some O5)) else (some 0))
set_option maxHeartbeats 8000000 in
set_option maxRecDepth 100000 in
theorem Y5.calls (k : Nat) (A0 : Option Addr) (c0 : Nat) (l0 : List (S41)) (a1 : Int) (r : Int) (w : World) (hr0 : Kd.C k41 w A0 l0.length l0) (hc0 : l0.length ≤ c0) (h : Y5.f k l0 a1 = some r) :
    Calls Try.prog 37 #[.slice A0 l0.length c0, .int .i64 a1] w fun e w' => e = .returned (.int .i64 r) ∧ Below w.heap.size w w' := by
  have HR0 := zz hr0; have HC0 := zz hc0; clear hr0 hc0; have HB := zz (Below.refl w.heap.size w); have H : ((Xq.f k l0).bind fun Yv => (if Yv = true then ((Jv.f k l0 a1).bind fun O5 => (some O5)) else (some 0))) = some r := h; clear h; replace H := Option.bind_eq_some_iff.mp H; obtain ⟨Yv, A30, H⟩ := H; replace H : (if Yv = true then ((Jv.f k l0 a1).bind fun O5 => (some O5)) else (some 0)) = some r := H; have A3 := zz A30; clear A30
  by_cases c4 : Yv = true
  · subst c4
    have H1 : ((Jv.f k l0 a1).bind fun O5 => (some O5)) = some r := by rw [if_pos rfl] at H; exact H
    clear H; have H := H1; clear H1; replace H := Option.bind_eq_some_iff.mp H; obtain ⟨O5, A50, H⟩ := H; replace H : (some O5) = some r := H; have A5 := zz A50; clear A50; obtain rfl := Option.some.inj H
    go_enter Try.func37, Try.ntmps37
    go_wp2_with (first | ((with_reducible refine Xg (f := 34) rfl ?_); refine Xz (some 6) rfl rfl Try.func34 zb14 rfl #[.slice A0 l0.length c0] rfl zb0 ?_; (with_reducible refine (Xq.calls k _ _ l0 true _ ?side1 ?side2 A3.out).mono ?_); (case side1 => exact zb17); (case side2 => exact HC0.out); rintro e w6 ⟨rfl, hb⟩; refine ⟨_, rfl, ?_⟩; have n0_ := zz (Xe zb4 hb); clear HB; have HB := n0_; clear n0_; (try clear hb); (try clear hb2); (try clear hk); (try clear hi)) | ((with_reducible refine Xg (f := 87) rfl ?_); refine Xz (some 10) rfl rfl Try.func87 zb14 rfl #[.slice A0 l0.length c0, .int .i64 a1] rfl zb0 ?_; (with_reducible refine (Jv.calls k _ _ l0 a1 O5 _ ?side1 ?side2 A5.out).mono ?_); (case side1 => exact zb15); (case side2 => exact HC0.out); rintro e w7 ⟨rfl, hb⟩; refine ⟨_, rfl, ?_⟩; have n0_ := zz (Xe zb4 hb); clear HB; have HB := n0_; clear n0_; (try clear hb); (try clear hb2); (try clear hk); (try clear hi)))
    go_ret
    exact ⟨zb8, zb4⟩
  · replace c4 := Bool.eq_false_iff.mpr c4
    subst c4
    have H1 : (some 0) = some r := by rw [if_neg (show ¬ (false = true) by decide)] at H; exact H
    clear H; have H := H1; clear H1; obtain rfl := Option.some.inj H
    go_enter Try.func37, Try.ntmps37
    go_wp2_with (first | ((with_reducible refine Xg (f := 34) rfl ?_); refine Xz (some 6) rfl rfl Try.func34 zb14 rfl #[.slice A0 l0.length c0] rfl zb0 ?_; (with_reducible refine (Xq.calls k _ _ l0 false _ ?side1 ?side2 A3.out).mono ?_); (case side1 => exact zb17); (case side2 => exact HC0.out); rintro e w8 ⟨rfl, hb⟩; refine ⟨_, rfl, ?_⟩; have n0_ := zz (Xe zb4 hb); clear HB; have HB := n0_; clear n0_; (try clear hb); (try clear hb2); (try clear hk); (try clear hi)))
    go_ret
    exact ⟨zb8, zb4⟩
end Go.Proofs.Ytcefiblpnegepaa.Pr
namespace Go.Proofs.Ytcefiblpnegepaa.T
open Go.RowKit Go.PW Go.Proofs.Ytcefiblpnegepaa.Pr
set_option linter.unusedSimpArgs false
set_option linter.unusedVariables false
theorem PK (l : List S41) (a : Int) (hl : l.length ≤ 9223372036854775807) (k : Nat) (hk : 3 * l.length + 4 < k) : Jh.f k l a = some (if YW l = true then lastB l a else 0) := by
  unfold Jh.f
  rw [VB l hl k hk]; simp only [Option.bind_some]
  cases YW l with
  | false => rfl
  | true => simp [NI l a hl k (by omega)]
theorem Uh (l : List S41) (a : Int) (hl : l.length ≤ 9223372036854775807) (k : Nat) (hk : 3 * l.length + 4 < k) : Y5.f k l a = some (if YW l = true then lastB l a else 0) := by
  unfold Y5.f Jv.f
  rw [Vb l hl k hk]; simp only [Option.bind_some]
  cases YW l <;> rfl
end Go.Proofs.Ytcefiblpnegepaa.T
