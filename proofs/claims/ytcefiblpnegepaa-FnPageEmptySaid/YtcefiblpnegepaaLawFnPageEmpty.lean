/- Walk of the law FnPageEmpty: its printed contract, at the plain law. -/
import Derived.Test.YtcefiblpnegepaaPrLawPE
import Derived.Test.YtcefiblpnegepaaPureFnPageEmpty
namespace Go.Proofs.Ytcefiblpnegepaa.T
open Go.RowKit Go.Proofs.YtcefiblpnegepaaW.PrintWords Go.Proofs.Ytcefiblpnegepaa.Pr
theorem FnPageEmpty_walk (A : Option Addr) (c : Nat) (l : List Int) (w : World) (hc : l.length ≤ c) (hC : Kd.C (Kd.int .u8) w A l.length l) (hby : Bytes l) :
    Calls Try.prog 4 #[.slice A l.length c] w fun e w' => e = .returned (.bool true) ∧ Below w.heap.size w w' := by
  obtain ⟨k, h⟩ := PureFnPageEmpty l hby
  exact laws_FnPageEmpty.calls k A c l true w hC hc h
end Go.Proofs.Ytcefiblpnegepaa.T
