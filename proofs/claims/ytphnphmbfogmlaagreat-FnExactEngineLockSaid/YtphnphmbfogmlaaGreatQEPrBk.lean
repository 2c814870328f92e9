import Derived.Test.YtphnphmbfogmlaaGreatQEByq
import Derived.Test.YtphnphmbfogmlaaGreatQEPrK
import Derived.Test.YtphnphmbfogmlaaGreatQESx
import Derived.Test.YtphnphmbfogmlaaGreatQEPrM
namespace Go.Proofs.YtphnphmbfogmlaaGreat.Pr
open Go.RowKit Go.PW Go.PL Go.PM
attribute [local go_sem] YO YP Zm Zn Yv Yw YQ YS
set_option linter.unusedVariables false
set_option linter.unusedSimpArgs false
def PZ.f (X4 : Int) (XB : Int) (Jb : Int) (Xo : Int) (Xp : Int) (J5 : Int) (Jn : Int) (J9 : Int) (a1 : Int) : Option (Int × Int × Int × Int × Int × Int × Int × Int) := some (6, XB, Jb, Xo, 0, Xp, a1, Jn)
set_option maxHeartbeats 8000000 in
set_option maxRecDepth 100000 in
theorem PZ.calls (X4 : Int) (XB : Int) (Jb : Int) (Xo : Int) (Xp : Int) (J5 : Int) (Jn : Int) (J9 : Int) (a1 : Int) (r1 : Int) (r2 : Int) (r3 : Int) (r4 : Int) (r5 : Int) (r6 : Int) (r7 : Int) (r8 : Int) (w : World) (h : PZ.f X4 XB Jb Xo Xp J5 Jn J9 a1 = some (r1, r2, r3, r4, r5, r6, r7, r8)) :
 Calls Tryz.prog 74 #[.agg #[.int .i64 X4, .int .i64 XB, .int .i64 Jb, .int .i64 Xo, .int .i64 Xp, .int .i64 J5, .int .i64 Jn, .int .i64 J9], .int .i64 a1] w fun e w' => e = .returned (.agg #[.int .i64 r1, .int .i64 r2, .int .i64 r3, .int .i64 r4, .int .i64 r5, .int .i64 r6, .int .i64 r7, .int .i64 r8]) ∧ Below w.heap.size w w' := by
 have hu76 := Tryz.underlying76; have HB := az (Below.refl w.heap.size w); have H : (some (6, XB, Jb, Xo, 0, Xp, a1, Jn)) = some (r1, r2, r3, r4, r5, r6, r7, r8) := h; clear h; simp only [Option.some.injEq, Prod.mk.injEq] at H; obtain ⟨rfl, rfl, rfl, rfl, rfl, rfl, rfl, rfl⟩ := H
 go_enter Tryz.func74, Tryz.ntmps74
 go_wp2_with (first | ((with_reducible refine Xn (N := 2) rfl ?_); refine Xl ?hg (N := 2) ?hd (cs := #[.int .i64 X4, .int .i64 XB, .int .i64 Jb, .int .i64 Xo, .int .i64 Xp, .int .i64 J5, .int .i64 Jn, .int .i64 J9]) (t := 76) ?hr ?_; (case hd => rfl); (case hg => rfl); (case hr => exact zb10); intro XzL hg w3 hbox hb; have Xfi := az (hbox); have XzM := az ((zb129 : w.heap.size ≤ XzL)); have GE202 := XzM; replace HB := az (Xc zb1 hb); clear hb hbox hg) | ((with_reducible refine Xn (N := 4) rfl ?_); refine Xl ?hg (N := 4) ?hd (cs := #[.int .i64 0, .int .i64 0, .int .i64 0, .int .i64 0, .int .i64 0, .int .i64 0, .int .i64 0, .int .i64 0]) (t := 76) ?hr ?_; (case hd => rfl); (case hg => rfl); (case hr => exact zb10); intro Xwk hg w4 hbox hb; have Xj5 := az (hbox); have XzN := az ((zb131 : w.heap.size ≤ Xwk)); have GE203 := XzN; replace HB := az (Xc zb0 hb); obtain ⟨XnT, XnU⟩ := nb Xfi hg (fun h => by (with_reducible repeat (first | apply bn | apply bd | apply ba)); exact h); replace Xfi := bb Xfi (fun h => by (with_reducible repeat (first | apply bn | apply bd | apply ba)); exact h) hb; clear hb hbox hg; have hnb5 := XnT.out; have hnc5 := XnU.out; obtain ⟨WR, WS, WT, OW, OX, XwU, XwV, XwW⟩ := cz8 Xfi; obtain ⟨WU, WV, WW, OY, OZ, XwX, XwY, XwZ⟩ := fz8 Xfi; obtain ⟨Xc9, XcA, XcB, XcC, XcD, Xhp, Xhq, Xhr⟩ := cz8 Xj5; obtain ⟨XcE, XcF, XcG, XcH, XcI, Xhs, Xht⟩ := fz7 Xj5; have Xhu := Xd Xj5.out 7))
 refine bodyPost_ret (results_cell_row rfl _ _ Xwk 76 #[.int .i64 6, .int .i64 XB, .int .i64 Jb, .int .i64 Xo, .int .i64 0, .int .i64 Xp, .int .i64 a1, .int .i64 Jn] (0, 0) _ rfl (by (with_reducible repeat (first | apply bn | apply bd | apply ba)); exact p8 Xj5) Tryz.underlying76 rfl zb9) rfl ?_; exact ⟨zb4, zb0⟩
end Go.Proofs.YtphnphmbfogmlaaGreat.Pr
