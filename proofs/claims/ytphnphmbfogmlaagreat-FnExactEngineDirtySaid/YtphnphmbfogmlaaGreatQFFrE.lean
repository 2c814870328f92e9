import Derived.Test.YtphnphmbfogmlaaGreatQFWMore
import Derived.Test.YtphnphmbfogmlaaGreatQFPrXE
namespace Go.Proofs.YtphnphmbfogmlaaGreat.Pr
open Go.RowKit Go.PW Go.PL Go.PM
set_option linter.unusedVariables false
structure TF (w : World) (base a b m n : Nat) (v0 v1 v2 : Value) (X Y : List S56) (Z : List S76) : Prop where
 s0 : Kd.S k56 56 w base (fun j => a ≤ j ∧ j < b ∧ j < m) v0 X
 s1 : Kd.S k56 56 w base (fun j => a ≤ j ∧ j < b ∧ m ≤ j ∧ j < n) v1 Y
 s2 : Kd.R k76 76 w base (fun j => a ≤ j ∧ j < b ∧ n ≤ j) v2 Z
theorem TF.of {w : World} {base a m n : Nat} {v0 v1 v2 : Value} {X Y : List S56} {Z : List S76} (h0 : Kd.S k56 56 w a (fun j => j < m) v0 X) (h1 : Kd.S k56 56 w a (fun j => m ≤ j ∧ j < n) v1 Y) (h2 : Kd.R k76 76 w a (fun j => n ≤ j) v2 Z) (hb : base ≤ a) : TF w base a w.heap.size m n v0 v1 v2 X Y Z :=
 ⟨Kd.J3 (Kd.Uk (Kd.MH h0) hb) (fun j hj => ⟨hj.2.1, hj.2.2.1, hj.1⟩), Kd.J3 (Kd.Uk (Kd.MH h1) hb) (fun j hj => ⟨hj.2.1, hj.2.2.1, hj.1⟩), Kd.XZ (Kd.YY (Kd.ZQ h2) hb) (fun j hj => ⟨hj.2.1, hj.2.2.1, hj.1⟩)⟩
theorem TF.below {w w' : World} {base a b m n : Nat} {v0 v1 v2 : Value} {X Y : List S56} {Z : List S76} (h : TF w base a b m n v0 v1 v2 X Y Z) (hb : Below w.heap.size w w') : TF w' base a b m n v0 v1 v2 X Y Z := ⟨Kd.ZO h.s0 hb, Kd.ZO h.s1 hb, Kd.Xr h.s2 hb⟩
theorem TF.drew {w : World} {base a b m n : Nat} {v0 v1 v2 : Value} {X Y : List S56} {Z : List S76} (h : TF w base a b m n v0 v1 v2 X Y Z) : TF w.drew base a b m n v0 v1 v2 X Y Z := ⟨Kd.JO h.s0, Kd.JO h.s1, Kd.YC h.s2⟩
theorem TF.reads {w : World} {base a b m n : Nat} {A0 A1 A2 : Option Addr} {l0 l1 l2 c0 c1 c2 : Nat} {X Y : List S56} {Z : List S76} (h : TF w base a b m n (.slice A0 l0 c0) (.slice A1 l1 c1) (.slice A2 l2 c2) X Y Z) : (l0 ≤ c0 ∧ Kd.C k56 w A0 X.length X) ∧ (l1 ≤ c1 ∧ Kd.C k56 w A1 Y.length Y) ∧ (l2 ≤ c2 ∧ Kd.C k76 w A2 Z.length Z) :=
 ⟨(Kd.YL h.s0).2, (Kd.YL h.s1).2, (Kd.X6 h.s2).2⟩
end Go.Proofs.YtphnphmbfogmlaaGreat.Pr
