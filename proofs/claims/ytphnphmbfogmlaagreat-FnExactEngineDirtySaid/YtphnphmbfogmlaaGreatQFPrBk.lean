import Derived.Test.YtphnphmbfogmlaaGreatQFByq
import Derived.Test.YtphnphmbfogmlaaGreatQFPrK
import Derived.Test.YtphnphmbfogmlaaGreatQFSx
import Derived.Test.YtphnphmbfogmlaaGreatQFPrM
namespace Go.Proofs.YtphnphmbfogmlaaGreat.Pr
open Go.RowKit Go.PW Go.PL Go.PM
attribute [local go_sem] Y3 Y4 YN YO Ya Yb Y5 Y6
set_option linter.unusedVariables false
set_option linter.unusedSimpArgs false
def NQ.f (Xu : Int) (Xy : Int) (ZM : Int) (Yu : Int) (Yt : Int) (Jk : Int) (ZU : Int) (Js : Int) (a1 : Int) : Option (Int × Int × Int × Int × Int × Int × Int × Int) := some (6, Xy, ZM, Yu, 0, Yt, a1, ZU)
set_option maxHeartbeats 8000000 in
set_option maxRecDepth 100000 in
theorem NQ.calls (Xu : Int) (Xy : Int) (ZM : Int) (Yu : Int) (Yt : Int) (Jk : Int) (ZU : Int) (Js : Int) (a1 : Int) (r1 : Int) (r2 : Int) (r3 : Int) (r4 : Int) (r5 : Int) (r6 : Int) (r7 : Int) (r8 : Int) (w : World) (h : NQ.f Xu Xy ZM Yu Yt Jk ZU Js a1 = some (r1, r2, r3, r4, r5, r6, r7, r8)) :
 Calls Tryz.prog 74 #[.agg #[.int .i64 Xu, .int .i64 Xy, .int .i64 ZM, .int .i64 Yu, .int .i64 Yt, .int .i64 Jk, .int .i64 ZU, .int .i64 Js], .int .i64 a1] w fun e w' => e = .returned (.agg #[.int .i64 r1, .int .i64 r2, .int .i64 r3, .int .i64 r4, .int .i64 r5, .int .i64 r6, .int .i64 r7, .int .i64 r8]) ∧ Below w.heap.size w w' := by
 have hu76 := Tryz.underlying76; have HB := az (Below.refl w.heap.size w); have H : (some (6, Xy, ZM, Yu, 0, Yt, a1, ZU)) = some (r1, r2, r3, r4, r5, r6, r7, r8) := h; clear h; simp only [Option.some.injEq, Prod.mk.injEq] at H; obtain ⟨rfl, rfl, rfl, rfl, rfl, rfl, rfl, rfl⟩ := H
 go_enter Tryz.func74, Tryz.ntmps74
 go_wp2_with (first | ((with_reducible refine Xp (N := 2) rfl ?_); refine Xn ?hg (N := 2) ?hd (cs := #[.int .i64 Xu, .int .i64 Xy, .int .i64 ZM, .int .i64 Yu, .int .i64 Yt, .int .i64 Jk, .int .i64 ZU, .int .i64 Js]) (t := 76) ?hr ?_; (case hd => rfl); (case hg => rfl); (case hr => exact zb7); intro Xvc hg w3 hbox hb; have XbO := az (hbox); have Xvd := az ((zb95 : w.heap.size ≤ Xvc)); have GE202 := Xvd; replace HB := az (Xc zb0 hb); clear hb hbox hg) | ((with_reducible refine Xp (N := 4) rfl ?_); refine Xn ?hg (N := 4) ?hd (cs := #[.int .i64 0, .int .i64 0, .int .i64 0, .int .i64 0, .int .i64 0, .int .i64 0, .int .i64 0, .int .i64 0]) (t := 76) ?hr ?_; (case hd => rfl); (case hg => rfl); (case hr => exact zb7); intro XrV hg w4 hbox hb; have Xg0 := az (hbox); have Xve := az ((zb97 : w.heap.size ≤ XrV)); have GE203 := Xve; replace HB := az (Xc zb1 hb); obtain ⟨Xkf, Xkg⟩ := nb XbO hg (fun h => by (with_reducible repeat (first | apply bn | apply bd | apply ba)); exact h); replace XbO := bb XbO (fun h => by (with_reducible repeat (first | apply bn | apply bd | apply ba)); exact h) hb; clear hb hbox hg; have hnb5 := Xkf.out; have hnc5 := Xkg.out; obtain ⟨RZ, Ca, Cb, XlC, XlD, Xsx, Xsy, Xsz⟩ := cz8 XbO; obtain ⟨Cc, Ce, Cf, XlE, XlF, Xs0, Xs1, Xs2⟩ := fz8 XbO; obtain ⟨XdH, XdI, XdJ, XdK, XdL, XdM, XdN, XdO⟩ := cz8 Xg0; obtain ⟨XdP, XdQ, XdR, XdS, XdT, XdU, XdV⟩ := fz7 Xg0; have XdW := Xe Xg0.out 7))
 refine bodyPost_ret (results_cell_row rfl _ _ XrV 76 #[.int .i64 6, .int .i64 Xy, .int .i64 ZM, .int .i64 Yu, .int .i64 0, .int .i64 Yt, .int .i64 a1, .int .i64 ZU] (0, 0) _ rfl (by (with_reducible repeat (first | apply bn | apply bd | apply ba)); exact p8 Xg0) Tryz.underlying76 rfl zb6) rfl ?_; exact ⟨zb4, zb1⟩
end Go.Proofs.YtphnphmbfogmlaaGreat.Pr
