/- The contract of impl.RecRead (gen_recread.py): its print, with Split, Index and the loop of Atoi. -/
import Derived.Test.YtajdjoggflagdaaDoorRRa
import Derived.Test.YtajdjoggflagdaaDoorSq
namespace Go.Proofs.YtajdjoggflagdaaDoorW.PrintWords.Kd
-- (from the words that print.sh OWN=1 lays)
theorem own_blk {n c : Nat} {ad : Addr} {g : Nat} (hne : some g ≠ (Value.slice (some ad) n c).ownBlock) : ad.block ≠ g := by
 rintro rfl
 exact hne (by simp [Value.ownBlock])
end Go.Proofs.YtajdjoggflagdaaDoorW.PrintWords.Kd
namespace Go.Proofs.YtajdjoggflagdaaDoor.Pr
open Go.RowKit Go.Proofs.YtajdjoggflagdaaDoorW.PrintWords Go.Proofs.YtajdjoggflagdaaDoorW.PrintLast Go.Proofs.YtajdjoggflagdaaDoorW.PrintMore Go.Proofs.YtajdjoggflagdaaDoor.T
/-- What is known of a world is all that is used of it. -/
theorem hideE_ {K : Act → World → Prop} {Q : Exit → Act → World → Prop} {a : Act} {w : World} (F : World → Prop) (hF : F w) (h : ∀ w', F w' → Exit.then K Q .normal a w') : Exit.then K Q .normal a w := h w hF
attribute [local go_sem] max2_int min2_int max_two min_two max_three min_three max_four min_four
set_option linter.unusedVariables false
set_option linter.unusedSimpArgs false
def atoiO (s : ByteArray) : Option Int := if s.size ≤ 281474976710656 then some (atoiV s) else none
theorem atoiO_some {s : ByteArray} {n : Int} (h : atoiO s = some n) : s.size ≤ 281474976710656 ∧ atoiV s = n := by
 unfold atoiO at h
 split at h
 ·exact ⟨by assumption, Option.some.inj h⟩
 ·exact absurd h (by simp)
def boxAt (n v1 v2 v3 v4 v5 v6 v7 : Int) : Nat → Array Value
 | 0 => #[.int .i64 n, .int .i64 0, .int .i64 0, .int .i64 0, .int .i64 0, .int .i64 0, .int .i64 0, .int .i64 0]
 | 1 => #[.int .i64 n, .int .i64 v1, .int .i64 0, .int .i64 0, .int .i64 0, .int .i64 0, .int .i64 0, .int .i64 0]
 | 2 => #[.int .i64 n, .int .i64 v1, .int .i64 v2, .int .i64 0, .int .i64 0, .int .i64 0, .int .i64 0, .int .i64 0]
 | 3 => #[.int .i64 n, .int .i64 v1, .int .i64 v2, .int .i64 v3, .int .i64 0, .int .i64 0, .int .i64 0, .int .i64 0]
 | 4 => #[.int .i64 n, .int .i64 v1, .int .i64 v2, .int .i64 v3, .int .i64 v4, .int .i64 0, .int .i64 0, .int .i64 0]
 | 5 => #[.int .i64 n, .int .i64 v1, .int .i64 v2, .int .i64 v3, .int .i64 v4, .int .i64 v5, .int .i64 0, .int .i64 0]
 | 6 => #[.int .i64 n, .int .i64 v1, .int .i64 v2, .int .i64 v3, .int .i64 v4, .int .i64 v5, .int .i64 v6, .int .i64 0]
 | _ => #[.int .i64 n, .int .i64 v1, .int .i64 v2, .int .i64 v3, .int .i64 v4, .int .i64 v5, .int .i64 v6, .int .i64 v7]
/-! ### impl_RecRead: function 25 -/
def impl_RecRead.j0 : Nat → ByteArray → List ByteArray → Bool → Option (Int × Int × Int × Int × Int × Int × Int × Int × Bool)
 | 0, _, _, _ => none
 | k + 1, x0, x4, x17 => if x17 = true then (some (0, 0, 0, 0, 0, 0, 0, 0, false)) else ((impl_recNames.f).bind fun t230 => (if 0 < (x4.length : Int) then ((idxO t230 (rdOf ByteArray.empty x4 0)).bind fun t234 => (if 1 < (x4.length : Int) then ((atoiO (rdOf ByteArray.empty x4 1)).bind fun t237 => (if 2 < (x4.length : Int) then ((atoiO (rdOf ByteArray.empty x4 2)).bind fun t239 => (if 3 < (x4.length : Int) then ((atoiO (rdOf ByteArray.empty x4 3)).bind fun t241 => (if 4 < (x4.length : Int) then ((atoiO (rdOf ByteArray.empty x4 4)).bind fun t243 => (if 5 < (x4.length : Int) then ((atoiO (rdOf ByteArray.empty x4 5)).bind fun t245 => (if 6 < (x4.length : Int) then ((atoiO (rdOf ByteArray.empty x4 6)).bind fun t247 => (if 7 < (x4.length : Int) then ((atoiO (rdOf ByteArray.empty x4 7)).bind fun t249 => ((impl_RecOk.f k t234 t237 t239 t241 t243 t245 t247 t249).bind fun t250 => (if t250 = true then ((impl_RecText.f k t234 t237 t239 t241 t243 t245 t247 t249).bind fun t251 => (if t251.toList = x0.toList then (some (t234, t237, t239, t241, t243, t245, t247, t249, true)) else (some (0, 0, 0, 0, 0, 0, 0, 0, false)))) else (some (0, 0, 0, 0, 0, 0, 0, 0, false))))) else (none))) else (none))) else (none))) else (none))) else (none))) else (none))) else (none))) else (none)))
def impl_RecRead.f (k : Nat) (a0 : ByteArray) : Option (Int × Int × Int × Int × Int × Int × Int × Int × Bool) := (splitO a0).bind fun t227 => (if (a0.size : Int) > 30 then (impl_RecRead.j0 k a0 t227 true) else (impl_RecRead.j0 k a0 t227 ((t227.length : Int) != 8)))
theorem impl_RecRead.mono_l : ∀ k, (∀ y0 y1 y2, LeO (impl_RecRead.j0 k y0 y1 y2) (impl_RecRead.j0 (k + 1) y0 y1 y2))
 | 0 => fun _ _ _ r h => by simp [impl_RecRead.j0] at h
 | k + 1 => by
  have ih0 := impl_RecRead.mono_l k
  ·intro y0 y1 y2
   unfold impl_RecRead.j0
   repeat' first
   | (with_reducible exact ih0 _ _ _)
   | (with_reducible exact impl_RecOk.mono _ _ _ _ _ _ _ _ _)
   | (with_reducible exact impl_RecText.mono _ _ _ _ _ _ _ _ _)
   | (with_reducible exact LeO.refl _)
   | (with_reducible exact LeO.none _)
   | (with_reducible refine LeO.ite ?_ ?_)
   | (with_reducible refine LeO.bind ?_ (fun _ => ?_))
   | exact ih0 _ _ _
   | exact impl_RecOk.mono _ _ _ _ _ _ _ _ _
   | exact impl_RecText.mono _ _ _ _ _ _ _ _ _
   | exact LeO.none _
   | refine LeO.ite ?_ ?_
   | refine LeO.bind ?_ (fun _ => ?_)
theorem impl_RecRead.mono : ∀ a0 k, LeO (impl_RecRead.f k a0) (impl_RecRead.f (k + 1) a0) := by
 intro a0 k
 have ih0 := impl_RecRead.mono_l k
 unfold impl_RecRead.f
 repeat' first
   | (with_reducible exact ih0 _ _ _)
   | (with_reducible exact impl_RecOk.mono _ _ _ _ _ _ _ _ _)
   | (with_reducible exact impl_RecText.mono _ _ _ _ _ _ _ _ _)
   | (with_reducible exact LeO.refl _)
   | (with_reducible exact LeO.none _)
   | (with_reducible refine LeO.ite ?_ ?_)
   | (with_reducible refine LeO.bind ?_ (fun _ => ?_))
   | exact ih0 _ _ _
   | exact impl_RecOk.mono _ _ _ _ _ _ _ _ _
   | exact impl_RecText.mono _ _ _ _ _ _ _ _ _
   | exact LeO.none _
   | refine LeO.ite ?_ ?_
   | refine LeO.bind ?_ (fun _ => ?_)
def impl_RecRead.T4 : Bool × List (List Nat × List Nat) := (true, [([], []), ([], []), ([1], [1]), ([2], [2]), ([0, 3, 0], [0, 3]), ([4], [4]), ([], []), ([6, 5, 4, 0, 1, 2, 3, 4, 5, 6], [5, 6])])
def impl_RecRead.B4 : List Nat := [0, 0, 2, 6, 15, 31, 0, 127]
theorem impl_RecRead.tab4 : rtab .any (opsOf Tryd.f25 4) = impl_RecRead.T4 := by kernel_rfl
theorem impl_RecRead.bits4 : waitsOk impl_RecRead.T4.2 impl_RecRead.B4 = true := by kernel_rfl
set_option maxHeartbeats 8000000 in
set_option maxRecDepth 100000 in
theorem impl_RecRead.calls (k : Nat) (a0 : ByteArray) (r1 : Int) (r2 : Int) (r3 : Int) (r4 : Int) (r5 : Int) (r6 : Int) (r7 : Int) (r8 : Int) (r9 : Bool) (w : World) (hdoor : Door w) (h : impl_RecRead.f k a0 = some (r1, r2, r3, r4, r5, r6, r7, r8, r9)) :
  Calls Tryd.prog 25 #[.string a0] w fun e w' => e = .returned (.tuple #[.agg #[.int .i64 r1, .int .i64 r2, .int .i64 r3, .int .i64 r4, .int .i64 r5, .int .i64 r6, .int .i64 r7, .int .i64 r8], .bool r9]) ∧ Below w.heap.size w w' := by
 have hu37 := Tryd.underlying37
 have HB := az (Below.refl w.heap.size w)
 have HD := az hdoor
 clear hdoor
 have H : ((splitO a0).bind fun t227 => (if (a0.size : Int) > 30 then (impl_RecRead.j0 k a0 t227 true) else (impl_RecRead.j0 k a0 t227 ((t227.length : Int) != 8)))) = some (r1, r2, r3, r4, r5, r6, r7, r8, r9) := h
 clear h
 replace H := Option.bind_eq_some_iff.mp H
 obtain ⟨t227, A20, H⟩ := H
 replace H : (if (a0.size : Int) > 30 then (impl_RecRead.j0 k a0 t227 true) else (impl_RecRead.j0 k a0 t227 ((t227.length : Int) != 8))) = some (r1, r2, r3, r4, r5, r6, r7, r8, r9) := H
 have A2 := az A20
 clear A20
 have HC3 := az H
 clear H
 go_enter Tryd.func25, Tryd.ntmps25
 go_upto_region 2 with (first | ((with_reducible refine gate_dst (N := 2) rfl ?_); (try (refine gate_guard (by rfl) ?_; dsimp only)); refine box_event ?hg (N := 2) ?hd (cs := #[.int .i64 0, .int .i64 0, .int .i64 0, .int .i64 0, .int .i64 0, .int .i64 0, .int .i64 0, .int .i64 0]) (t := 37) ?hr ?_; (case hd => rfl); (case hg => rfl); (case hr => first | (go_simp; done) | (go_simp; rfl)); intro gb226 hg w4 hbox hb; have BK226 := az (hbox); have GW226 := az ((by rw [hg]; exact (below_size (by repeat (first | (with_reducible first | exact HB.out | apply wa | apply wn | apply wd) | exact HB.out))) : w.heap.size ≤ gb226)); have GE226 := GW226; replace HB := az (below_step (by repeat (first | (with_reducible first | exact HB.out | apply wa | apply wn | apply wd) | exact HB.out)) hb); clear hb hbox hg) | ((with_reducible refine gate_callee (f := 48) rfl ?_); refine goesL_ (some 9) rfl rfl Tryd.func48 (by kernel_rfl) rfl #[.string a0, .string ⟨#[32]⟩] rfl (by (try simp only [List.map_toArray, List.map_cons, List.map_nil]); first | done | rfl | (simp only [List.length_drop, List.length_take]; rfl)) ?_; (with_reducible refine (split_calls a0 t227 _ (HD.out.on (by repeat (first | (with_reducible first | exact HB.out | apply wa | apply wn | apply wd | refine ws ‹_› ?_) | exact HB.out))) A2.out).mono ?_); rintro e w5 ⟨v228, rfl, ho0, hb⟩; refine ⟨_, rfl, ?_⟩; have HO229 := az (Kd.R_lower ho0 (below_size (by repeat (first | (with_reducible first | exact HB.out | apply wa | apply wn | apply wd | refine ws ‹_› ?_) | exact HB.out)))); replace BK226 := bb BK226 (fun h => by (with_reducible repeat (first | apply bn | apply bd | apply ba)); exact h) hb; replace HB := az (below_step (by repeat (first | (with_reducible first | exact HB.out | apply wa | apply wn | apply wd | refine ws ‹_› ?_) | exact HB.out)) hb); (try clear hb); (try clear hb2); (try clear hk); (try clear hi); (try clear ho0)))
 (try simp only [Act.put, List.setIfInBounds_toArray, List.set_cons_zero, List.set_cons_succ])
 go_cut [17] (fun v17 wc => ∃ (kq : Nat) (x17_2 : Bool), v17 = .bool x17_2 ∧ Aside0 (impl_RecRead.j0 kq a0 t227 x17_2 = some (r1, r2, r3, r4, r5, r6, r7, r8, r9)) ∧ Aside0 (kq ≤ k) ∧ Aside0 (Kd.R Kd.string 9 wc w.heap.size (fun _ => True) v228 t227) ∧ Aside0 (wc.heap[gb226]? = some (.cells #[.int .i64 0, .int .i64 0, .int .i64 0, .int .i64 0, .int .i64 0, .int .i64 0, .int .i64 0, .int .i64 0] 37 (0, 0))) ∧ Aside0 (Below w.heap.size w wc))
 case first =>
  have H := HC3.out
  clear HC3
  by_cases c6 : (a0.size : Int) > 30
  ·rw [if_pos c6] at H
   have c6b0 : decide (30 < (a0.size : Int)) = true := decide_eq_true c6
   have c6b1 : decide (30 < a0.size) = true := decide_eq_true (by omega)
   clear c6
   (first | rw [c6b0] | (simp only [i64_w, i32_w]; rw [c6b0]) | skip)
   have H' := az H
   clear H
   go_wp2
   go_meet
   case rel => exact ⟨_, (true), (by first | rfl | (simp; done) | (simp [*]; done)), H', ⟨by first | omega | exact Nat.le_refl _⟩, ⟨by (with_reducible repeat (first | apply Kd.R_alloc | apply Kd.R_drewN | apply Kd.R_drew)); exact HO229.out⟩, ⟨by (with_reducible repeat (first | apply bn | apply bd | apply ba)); exact BK226.out⟩, ⟨by repeat (first | (with_reducible first | exact HB.out | apply wa | apply wn | apply wd | refine ws ‹_› ?_) | exact HB.out)⟩⟩
  ·rw [if_neg c6] at H
   have c6b0 : decide (30 < (a0.size : Int)) = false := decide_eq_false c6
   have c6b1 : decide (30 < a0.size) = false := decide_eq_false (by omega)
   clear c6
   (first | rw [c6b0] | (simp only [i64_w, i32_w]; rw [c6b0]) | skip)
   have H' := az H
   clear H
   obtain ⟨Ao7, co7, eo7⟩ := Kd.R_slice HO229.out
   subst eo7
   go_wp2
   go_meet
   case rel => exact ⟨_, (((t227.length : Int) != 8)), (by first | rfl | (simp; done) | (simp [*]; done)), H', ⟨by first | omega | exact Nat.le_refl _⟩, ⟨by (with_reducible repeat (first | apply Kd.R_alloc | apply Kd.R_drewN | apply Kd.R_drew)); exact HO229.out⟩, ⟨by (with_reducible repeat (first | apply bn | apply bd | apply ba)); exact BK226.out⟩, ⟨by repeat (first | (with_reducible first | exact HB.out | apply wa | apply wn | apply wd | refine ws ‹_› ?_) | exact HB.out)⟩⟩
 case rest =>
  clear HC3;(try clear c2);(try clear p2);(try clear c4);(try clear c6);(try clear c6b0);(try clear c6b1)
  obtain ⟨kq, x17_2, rfl, HA, HJ2, HO_4, BK226, HB⟩ := hcut
  cases kq with
  | zero => exact absurd HA.out (by simp [impl_RecRead.j0])
  | succ kj2 =>
   have H := HA.out
   clear HA
   simp only [impl_RecRead.j0] at H
   by_cases c8 : x17_2 = true
   ·subst c8
    have H1 : (some (0, 0, 0, 0, 0, 0, 0, 0, false)) = some (r1, r2, r3, r4, r5, r6, r7, r8, r9) := by rw [if_pos rfl] at H; exact H
    clear H
    have H := H1
    clear H1
    simp only [Option.some.injEq, Prod.mk.injEq] at H
    obtain ⟨rfl, rfl, rfl, rfl, rfl, rfl, rfl, rfl, rfl⟩ := H
    obtain ⟨hcz9_0, hcz9_1, hcz9_2, hcz9_3, hcz9_4, hcz9_5, hcz9_6, hcz9_7⟩ := cz8 BK226
    obtain ⟨hfz9_0, hfz9_1, hfz9_2, hfz9_3, hfz9_4, hfz9_5, hfz9_6, hfz9_7⟩ := fz8 BK226
    go_wp2
    refine bodyPost_ret (results_ct rfl _ _ gb226 37 #[.int .i64 0, .int .i64 0, .int .i64 0, .int .i64 0, .int .i64 0, .int .i64 0, .int .i64 0, .int .i64 0] (0, 0) _ rfl (by (with_reducible repeat (first | apply bn | apply bd | apply ba)); exact p8 BK226) Tryd.underlying37 rfl (by kernel_rfl)) rfl ?_
    exact ⟨by first | rfl | (simp [errW_none, errW_some] <;> rfl) | (simp [*, errW_none, errW_some] <;> rfl), by repeat (first | (with_reducible first | exact HB.out | apply wa | apply wn | apply wd | refine ws ‹_› ?_) | exact HB.out)⟩
   ·replace c8 := Bool.eq_false_iff.mpr c8
    subst c8
    have H1 : ((impl_recNames.f).bind fun t230 => (if 0 < (t227.length : Int) then ((idxO t230 (rdOf ByteArray.empty t227 0)).bind fun t234 => (if 1 < (t227.length : Int) then ((atoiO (rdOf ByteArray.empty t227 1)).bind fun t237 => (if 2 < (t227.length : Int) then ((atoiO (rdOf ByteArray.empty t227 2)).bind fun t239 => (if 3 < (t227.length : Int) then ((atoiO (rdOf ByteArray.empty t227 3)).bind fun t241 => (if 4 < (t227.length : Int) then ((atoiO (rdOf ByteArray.empty t227 4)).bind fun t243 => (if 5 < (t227.length : Int) then ((atoiO (rdOf ByteArray.empty t227 5)).bind fun t245 => (if 6 < (t227.length : Int) then ((atoiO (rdOf ByteArray.empty t227 6)).bind fun t247 => (if 7 < (t227.length : Int) then ((atoiO (rdOf ByteArray.empty t227 7)).bind fun t249 => ((impl_RecOk.f kj2 t234 t237 t239 t241 t243 t245 t247 t249).bind fun t250 => (if t250 = true then ((impl_RecText.f kj2 t234 t237 t239 t241 t243 t245 t247 t249).bind fun t251 => (if t251.toList = a0.toList then (some (t234, t237, t239, t241, t243, t245, t247, t249, true)) else (some (0, 0, 0, 0, 0, 0, 0, 0, false)))) else (some (0, 0, 0, 0, 0, 0, 0, 0, false))))) else (none))) else (none))) else (none))) else (none))) else (none))) else (none))) else (none))) else (none))) = some (r1, r2, r3, r4, r5, r6, r7, r8, r9) := by rw [if_neg (show ¬ (false = true) by decide)] at H; exact H
    clear H
    have H := H1
    clear H1
    replace H := Option.bind_eq_some_iff.mp H
    obtain ⟨t230, A100, H⟩ := H
    replace H : (if 0 < (t227.length : Int) then ((idxO t230 (rdOf ByteArray.empty t227 0)).bind fun t234 => (if 1 < (t227.length : Int) then ((atoiO (rdOf ByteArray.empty t227 1)).bind fun t237 => (if 2 < (t227.length : Int) then ((atoiO (rdOf ByteArray.empty t227 2)).bind fun t239 => (if 3 < (t227.length : Int) then ((atoiO (rdOf ByteArray.empty t227 3)).bind fun t241 => (if 4 < (t227.length : Int) then ((atoiO (rdOf ByteArray.empty t227 4)).bind fun t243 => (if 5 < (t227.length : Int) then ((atoiO (rdOf ByteArray.empty t227 5)).bind fun t245 => (if 6 < (t227.length : Int) then ((atoiO (rdOf ByteArray.empty t227 6)).bind fun t247 => (if 7 < (t227.length : Int) then ((atoiO (rdOf ByteArray.empty t227 7)).bind fun t249 => ((impl_RecOk.f kj2 t234 t237 t239 t241 t243 t245 t247 t249).bind fun t250 => (if t250 = true then ((impl_RecText.f kj2 t234 t237 t239 t241 t243 t245 t247 t249).bind fun t251 => (if t251.toList = a0.toList then (some (t234, t237, t239, t241, t243, t245, t247, t249, true)) else (some (0, 0, 0, 0, 0, 0, 0, 0, false)))) else (some (0, 0, 0, 0, 0, 0, 0, 0, false))))) else (none))) else (none))) else (none))) else (none))) else (none))) else (none))) else (none))) else (none)) = some (r1, r2, r3, r4, r5, r6, r7, r8, r9) := H
    have A10 := az A100
    clear A100
    by_cases c11 : 0 < (t227.length : Int)
    ·rw [if_pos c11] at H
     have c11b0 : decide (0 < (t227.length : Int)) = true := decide_eq_true c11
     have c11b1 : decide (0 < t227.length) = true := decide_eq_true (by omega)
     clear c11
     replace H := Option.bind_eq_some_iff.mp H
     obtain ⟨t234, A120, H⟩ := H
     replace H : (if 1 < (t227.length : Int) then ((atoiO (rdOf ByteArray.empty t227 1)).bind fun t237 => (if 2 < (t227.length : Int) then ((atoiO (rdOf ByteArray.empty t227 2)).bind fun t239 => (if 3 < (t227.length : Int) then ((atoiO (rdOf ByteArray.empty t227 3)).bind fun t241 => (if 4 < (t227.length : Int) then ((atoiO (rdOf ByteArray.empty t227 4)).bind fun t243 => (if 5 < (t227.length : Int) then ((atoiO (rdOf ByteArray.empty t227 5)).bind fun t245 => (if 6 < (t227.length : Int) then ((atoiO (rdOf ByteArray.empty t227 6)).bind fun t247 => (if 7 < (t227.length : Int) then ((atoiO (rdOf ByteArray.empty t227 7)).bind fun t249 => ((impl_RecOk.f kj2 t234 t237 t239 t241 t243 t245 t247 t249).bind fun t250 => (if t250 = true then ((impl_RecText.f kj2 t234 t237 t239 t241 t243 t245 t247 t249).bind fun t251 => (if t251.toList = a0.toList then (some (t234, t237, t239, t241, t243, t245, t247, t249, true)) else (some (0, 0, 0, 0, 0, 0, 0, 0, false)))) else (some (0, 0, 0, 0, 0, 0, 0, 0, false))))) else (none))) else (none))) else (none))) else (none))) else (none))) else (none))) else (none)) = some (r1, r2, r3, r4, r5, r6, r7, r8, r9) := H
     have A12 := az A120
     clear A120
     by_cases c13 : 1 < (t227.length : Int)
     ·rw [if_pos c13] at H
      have c13b0 : decide (1 < (t227.length : Int)) = true := decide_eq_true c13
      have c13b1 : decide (1 < t227.length) = true := decide_eq_true (by omega)
      clear c13
      replace H := Option.bind_eq_some_iff.mp H
      obtain ⟨t237, A140, H⟩ := H
      replace H : (if 2 < (t227.length : Int) then ((atoiO (rdOf ByteArray.empty t227 2)).bind fun t239 => (if 3 < (t227.length : Int) then ((atoiO (rdOf ByteArray.empty t227 3)).bind fun t241 => (if 4 < (t227.length : Int) then ((atoiO (rdOf ByteArray.empty t227 4)).bind fun t243 => (if 5 < (t227.length : Int) then ((atoiO (rdOf ByteArray.empty t227 5)).bind fun t245 => (if 6 < (t227.length : Int) then ((atoiO (rdOf ByteArray.empty t227 6)).bind fun t247 => (if 7 < (t227.length : Int) then ((atoiO (rdOf ByteArray.empty t227 7)).bind fun t249 => ((impl_RecOk.f kj2 t234 t237 t239 t241 t243 t245 t247 t249).bind fun t250 => (if t250 = true then ((impl_RecText.f kj2 t234 t237 t239 t241 t243 t245 t247 t249).bind fun t251 => (if t251.toList = a0.toList then (some (t234, t237, t239, t241, t243, t245, t247, t249, true)) else (some (0, 0, 0, 0, 0, 0, 0, 0, false)))) else (some (0, 0, 0, 0, 0, 0, 0, 0, false))))) else (none))) else (none))) else (none))) else (none))) else (none))) else (none)) = some (r1, r2, r3, r4, r5, r6, r7, r8, r9) := H
      have A14 := az A140
      clear A140
      by_cases c15 : 2 < (t227.length : Int)
      ·rw [if_pos c15] at H
       have c15b0 : decide (2 < (t227.length : Int)) = true := decide_eq_true c15
       have c15b1 : decide (2 < t227.length) = true := decide_eq_true (by omega)
       clear c15
       replace H := Option.bind_eq_some_iff.mp H
       obtain ⟨t239, A160, H⟩ := H
       replace H : (if 3 < (t227.length : Int) then ((atoiO (rdOf ByteArray.empty t227 3)).bind fun t241 => (if 4 < (t227.length : Int) then ((atoiO (rdOf ByteArray.empty t227 4)).bind fun t243 => (if 5 < (t227.length : Int) then ((atoiO (rdOf ByteArray.empty t227 5)).bind fun t245 => (if 6 < (t227.length : Int) then ((atoiO (rdOf ByteArray.empty t227 6)).bind fun t247 => (if 7 < (t227.length : Int) then ((atoiO (rdOf ByteArray.empty t227 7)).bind fun t249 => ((impl_RecOk.f kj2 t234 t237 t239 t241 t243 t245 t247 t249).bind fun t250 => (if t250 = true then ((impl_RecText.f kj2 t234 t237 t239 t241 t243 t245 t247 t249).bind fun t251 => (if t251.toList = a0.toList then (some (t234, t237, t239, t241, t243, t245, t247, t249, true)) else (some (0, 0, 0, 0, 0, 0, 0, 0, false)))) else (some (0, 0, 0, 0, 0, 0, 0, 0, false))))) else (none))) else (none))) else (none))) else (none))) else (none)) = some (r1, r2, r3, r4, r5, r6, r7, r8, r9) := H
       have A16 := az A160
       clear A160
       by_cases c17 : 3 < (t227.length : Int)
       ·rw [if_pos c17] at H
        have c17b0 : decide (3 < (t227.length : Int)) = true := decide_eq_true c17
        have c17b1 : decide (3 < t227.length) = true := decide_eq_true (by omega)
        clear c17
        replace H := Option.bind_eq_some_iff.mp H
        obtain ⟨t241, A180, H⟩ := H
        replace H : (if 4 < (t227.length : Int) then ((atoiO (rdOf ByteArray.empty t227 4)).bind fun t243 => (if 5 < (t227.length : Int) then ((atoiO (rdOf ByteArray.empty t227 5)).bind fun t245 => (if 6 < (t227.length : Int) then ((atoiO (rdOf ByteArray.empty t227 6)).bind fun t247 => (if 7 < (t227.length : Int) then ((atoiO (rdOf ByteArray.empty t227 7)).bind fun t249 => ((impl_RecOk.f kj2 t234 t237 t239 t241 t243 t245 t247 t249).bind fun t250 => (if t250 = true then ((impl_RecText.f kj2 t234 t237 t239 t241 t243 t245 t247 t249).bind fun t251 => (if t251.toList = a0.toList then (some (t234, t237, t239, t241, t243, t245, t247, t249, true)) else (some (0, 0, 0, 0, 0, 0, 0, 0, false)))) else (some (0, 0, 0, 0, 0, 0, 0, 0, false))))) else (none))) else (none))) else (none))) else (none)) = some (r1, r2, r3, r4, r5, r6, r7, r8, r9) := H
        have A18 := az A180
        clear A180
        by_cases c19 : 4 < (t227.length : Int)
        ·rw [if_pos c19] at H
         have c19b0 : decide (4 < (t227.length : Int)) = true := decide_eq_true c19
         have c19b1 : decide (4 < t227.length) = true := decide_eq_true (by omega)
         clear c19
         replace H := Option.bind_eq_some_iff.mp H
         obtain ⟨t243, A200, H⟩ := H
         replace H : (if 5 < (t227.length : Int) then ((atoiO (rdOf ByteArray.empty t227 5)).bind fun t245 => (if 6 < (t227.length : Int) then ((atoiO (rdOf ByteArray.empty t227 6)).bind fun t247 => (if 7 < (t227.length : Int) then ((atoiO (rdOf ByteArray.empty t227 7)).bind fun t249 => ((impl_RecOk.f kj2 t234 t237 t239 t241 t243 t245 t247 t249).bind fun t250 => (if t250 = true then ((impl_RecText.f kj2 t234 t237 t239 t241 t243 t245 t247 t249).bind fun t251 => (if t251.toList = a0.toList then (some (t234, t237, t239, t241, t243, t245, t247, t249, true)) else (some (0, 0, 0, 0, 0, 0, 0, 0, false)))) else (some (0, 0, 0, 0, 0, 0, 0, 0, false))))) else (none))) else (none))) else (none)) = some (r1, r2, r3, r4, r5, r6, r7, r8, r9) := H
         have A20 := az A200
         clear A200
         by_cases c21 : 5 < (t227.length : Int)
         ·rw [if_pos c21] at H
          have c21b0 : decide (5 < (t227.length : Int)) = true := decide_eq_true c21
          have c21b1 : decide (5 < t227.length) = true := decide_eq_true (by omega)
          clear c21
          replace H := Option.bind_eq_some_iff.mp H
          obtain ⟨t245, A220, H⟩ := H
          replace H : (if 6 < (t227.length : Int) then ((atoiO (rdOf ByteArray.empty t227 6)).bind fun t247 => (if 7 < (t227.length : Int) then ((atoiO (rdOf ByteArray.empty t227 7)).bind fun t249 => ((impl_RecOk.f kj2 t234 t237 t239 t241 t243 t245 t247 t249).bind fun t250 => (if t250 = true then ((impl_RecText.f kj2 t234 t237 t239 t241 t243 t245 t247 t249).bind fun t251 => (if t251.toList = a0.toList then (some (t234, t237, t239, t241, t243, t245, t247, t249, true)) else (some (0, 0, 0, 0, 0, 0, 0, 0, false)))) else (some (0, 0, 0, 0, 0, 0, 0, 0, false))))) else (none))) else (none)) = some (r1, r2, r3, r4, r5, r6, r7, r8, r9) := H
          have A22 := az A220
          clear A220
          by_cases c23 : 6 < (t227.length : Int)
          ·rw [if_pos c23] at H
           have c23b0 : decide (6 < (t227.length : Int)) = true := decide_eq_true c23
           have c23b1 : decide (6 < t227.length) = true := decide_eq_true (by omega)
           clear c23
           replace H := Option.bind_eq_some_iff.mp H
           obtain ⟨t247, A240, H⟩ := H
           replace H : (if 7 < (t227.length : Int) then ((atoiO (rdOf ByteArray.empty t227 7)).bind fun t249 => ((impl_RecOk.f kj2 t234 t237 t239 t241 t243 t245 t247 t249).bind fun t250 => (if t250 = true then ((impl_RecText.f kj2 t234 t237 t239 t241 t243 t245 t247 t249).bind fun t251 => (if t251.toList = a0.toList then (some (t234, t237, t239, t241, t243, t245, t247, t249, true)) else (some (0, 0, 0, 0, 0, 0, 0, 0, false)))) else (some (0, 0, 0, 0, 0, 0, 0, 0, false))))) else (none)) = some (r1, r2, r3, r4, r5, r6, r7, r8, r9) := H
           have A24 := az A240
           clear A240
           by_cases c25 : 7 < (t227.length : Int)
           ·rw [if_pos c25] at H
            have c25b0 : decide (7 < (t227.length : Int)) = true := decide_eq_true c25
            have c25b1 : decide (7 < t227.length) = true := decide_eq_true (by omega)
            clear c25
            replace H := Option.bind_eq_some_iff.mp H
            obtain ⟨t249, A260, H⟩ := H
            replace H : ((impl_RecOk.f kj2 t234 t237 t239 t241 t243 t245 t247 t249).bind fun t250 => (if t250 = true then ((impl_RecText.f kj2 t234 t237 t239 t241 t243 t245 t247 t249).bind fun t251 => (if t251.toList = a0.toList then (some (t234, t237, t239, t241, t243, t245, t247, t249, true)) else (some (0, 0, 0, 0, 0, 0, 0, 0, false)))) else (some (0, 0, 0, 0, 0, 0, 0, 0, false)))) = some (r1, r2, r3, r4, r5, r6, r7, r8, r9) := H
            have A26 := az A260
            clear A260
            replace H := Option.bind_eq_some_iff.mp H
            obtain ⟨t250, A270, H⟩ := H
            replace H : (if t250 = true then ((impl_RecText.f kj2 t234 t237 t239 t241 t243 t245 t247 t249).bind fun t251 => (if t251.toList = a0.toList then (some (t234, t237, t239, t241, t243, t245, t247, t249, true)) else (some (0, 0, 0, 0, 0, 0, 0, 0, false)))) else (some (0, 0, 0, 0, 0, 0, 0, 0, false))) = some (r1, r2, r3, r4, r5, r6, r7, r8, r9) := H
            have A27 := az A270
            clear A270
            by_cases c28 : t250 = true
            ·subst c28
             have H1 : ((impl_RecText.f kj2 t234 t237 t239 t241 t243 t245 t247 t249).bind fun t251 => (if t251.toList = a0.toList then (some (t234, t237, t239, t241, t243, t245, t247, t249, true)) else (some (0, 0, 0, 0, 0, 0, 0, 0, false)))) = some (r1, r2, r3, r4, r5, r6, r7, r8, r9) := by rw [if_pos rfl] at H; exact H
             clear H
             have H := H1
             clear H1
             replace H := Option.bind_eq_some_iff.mp H
             obtain ⟨t251, A290, H⟩ := H
             replace H : (if t251.toList = a0.toList then (some (t234, t237, t239, t241, t243, t245, t247, t249, true)) else (some (0, 0, 0, 0, 0, 0, 0, 0, false))) = some (r1, r2, r3, r4, r5, r6, r7, r8, r9) := H
             have A29 := az A290
             clear A290
             by_cases c30 : t251.toList = a0.toList
             ·rw [if_pos c30] at H
              have c30b0 : (t251.toList == a0.toList) = true := beq_iff_eq.mpr c30
              have c30b1 : (t251.toList != a0.toList) = false := bne_eq_false_iff_eq.mpr c30
              clear c30
              simp only [Option.some.injEq, Prod.mk.injEq] at H
              obtain ⟨rfl, rfl, rfl, rfl, rfl, rfl, rfl, rfl, rfl⟩ := H
              try go_wp2
              replace HO_4 := az (Kd.R_drew HO_4.out)
              replace BK226 := az (blk_drew BK226.out)
              replace HB := az (wd HB.out)
              obtain ⟨Ao32, co32, eo32⟩ := Kd.R_slice HO_4.out
              (first | subst eo32 | (injection eo32 with f1_ f2_ f3_; have f4_ := f1_.symm; have f5_ := f3_.symm; clear f1_ f2_ f3_; subst f4_; subst f5_))
              have p233 : 0 ≤ (0 : Int) := (by omega)
              have q233 : 0 < (t227.length : Int) := of_decide_eq_true (by first | (with_reducible assumption) | assumption)
              obtain ⟨ad233, e233, hx233_0⟩ := Kd.at_string (Kd.R_reads' HO_4.out).2.2 0 p233 q233
              cases e233
              have qi233 : (0 < t227.length) = True := eq_true (by omega)
              (try rw [show ((0 : Int)).toNat = 0 from rfl] at hx233_0)
              (try rw [Addr.add_zero'] at hx233_0)
              replace p233 := eq_true p233
              replace q233 := eq_true q233
              refine start_ (n := 8) (S := fun w' => w'.cell? ad233 = some (.string (rdOf ByteArray.empty t227 0))) (ds := []) #[false, false, false, false, false, false, false, false] (by kernel_rfl) rfl rfl (hx233_0) (fun hHeld => ?_); refine with_tabW impl_RecRead.tab4 impl_RecRead.bits4 (fun HT_ HW_ => ?_)
              generalize wc.drew = w31 at HO_4 BK226 HB hx233_0 hHeld ⊢
              refine pure_ (i := 1) (N := some 20) (v := ?_) (a' := ?_) #[false, true, false, false, false, false, false, false] rfl rfl (any_of HT_.out (by kernel_rfl)) (fun _ _ _ h => h) (Or.inl ⟨by rfl, ?_⟩) ?_ ?_
              rotate_left
              ·intro w'
               go_simp
               with_reducible rfl
              rotate_left
              ·simp only [Act.put, List.setIfInBounds_toArray, List.set_cons_zero, List.set_cons_succ, i64_w, i32_w]
               rfl
              refine pure_ (i := 2) (N := some 21) (v := ?_) (a' := ?_) #[false, true, true, false, false, false, false, false] rfl rfl (any_of HT_.out (by kernel_rfl)) (fun _ _ _ h => h) (Or.inl ⟨by rfl, ?_⟩) ?_ ?_
              rotate_left
              ·intro w'
               go_simp
               with_reducible rfl
              rotate_left
              ·simp only [Act.put, List.setIfInBounds_toArray, List.set_cons_zero, List.set_cons_succ, i64_w, i32_w]
               rfl
              refine take_ (i := 3) (N := some 22) (v := ?_) (a' := ?_) #[false, true, true, true, false, false, false, false] rfl rfl (take_ofW HT_.out HW_.out (by kernel_rfl)) (fun _ _ _ h => h) (Or.inl ⟨by rfl, ?_⟩) hHeld ?_ ?_
              rotate_left
              ·intro w' s0
               go_simp
               with_reducible rfl
              rotate_left
              ·simp only [Act.put, List.setIfInBounds_toArray, List.set_cons_zero, List.set_cons_succ, i64_w, i32_w]
               rfl
              refine join_ (σ := Value × Nat) 1 #[true, true, true, true, true, true, true, false] (fun s_ => [(19, s_.1), (23, .int .i64 t234), (5, .pointer (some ⟨s_.2, 0, none⟩)), (24, .agg #[.int .i64 t234, .int .i64 0, .int .i64 0, .int .i64 0, .int .i64 0, .int .i64 0, .int .i64 0, .int .i64 0])]) (fun s_ w' => (w'.cell? ad233 = some (.string (rdOf ByteArray.empty t227 0))) ∧ (Kd.R Kd.string 9 w' w.heap.size (fun k_ => some k_ ≠ (.slice (some ad233) t227.length co32 : Value).ownBlock) s_.1 t230) ∧ (Kd.R Kd.string 9 w' w.heap.size (fun k_ => some k_ ≠ (s_.1 : Value).ownBlock) (.slice (some ad233) t227.length co32) t227) ∧ (w'.heap[gb226]? = some (.cells #[.int .i64 0, .int .i64 0, .int .i64 0, .int .i64 0, .int .i64 0, .int .i64 0, .int .i64 0, .int .i64 0] 37 (0, 0))) ∧ (w'.heap[s_.2]? = some (.cells #[.int .i64 0, .int .i64 0, .int .i64 0, .int .i64 0, .int .i64 0, .int .i64 0, .int .i64 0, .int .i64 0] 37 (0, 0))) ∧ (w.heap.size ≤ s_.2) ∧ (w.heap.size ≤ s_.2) ∧ (gb226 ≠ s_.2) ∧ (s_.2 ≠ gb226) ∧ (Below w.heap.size w w')) ?_ ?_
              rotate_left
              ·intro hCont
               refine two_ (i := 0) (j := 6) (Ni := some 19) (Nj := some 5) #[true, true, true, true, false, false, false, false] #[false, true, true, true, false, false, true, false] rfl rfl rfl rfl (two_of HT_.out (by kernel_rfl)) (by decide) (by decide) (fun K hK => ?_) (fun K hK => ?_)
               ·skip
                refine goes_ Tryd.func45 (by kernel_rfl) rfl #[] (by rfl) rfl rfl (by (try simp only [List.map_toArray, List.map_cons, List.map_nil]); first | done | rfl | (simp only [List.length_drop, List.length_take]; rfl)) ?_
                with_reducible refine (impl_recNames.calls  t230 _ A10.out).mono ?_
                rintro e w33 ⟨v231, rfl, ho0, hb⟩
                have HS0_ := (hb.cell (World.block_lt_of_cell? _ _ (hHeld))).trans (hHeld)
                refine ⟨_, rfl, ?_⟩
                have HO232 := az (Kd.R_lower (Kd.R_new' ho0 (Kd.R_lt (by (with_reducible repeat (first | apply Kd.R_alloc | apply Kd.R_drewN | apply Kd.R_drew)); exact HO_4.out))) (below_size (by repeat (first | (with_reducible first | exact HB.out | apply wa | apply wn | apply wd | refine ws ‹_› ?_) | exact HB.out))))
                replace HO_4 := az (Kd.R_elder' (by (with_reducible repeat (first | apply Kd.R_alloc | apply Kd.R_drewN | apply Kd.R_drew)); exact HO_4.out) (Kd.R_base ho0) hb)
                replace BK226 := bb BK226 (fun h => by (with_reducible repeat (first | apply bn | apply bd | apply ba)); exact h) hb
                replace HB := az (below_step (by repeat (first | (with_reducible first | exact HB.out | apply wa | apply wn | apply wd | refine ws ‹_› ?_) | exact HB.out)) hb)
                (try clear hb);(try clear hb2);(try clear hk);(try clear hi);(try clear ho0)
                refine hK.out _ _ (HS0_) (fun hHeld => ?_)
                clear hK K
                refine norm_ (a' := ?_) ?_ ?_
                rotate_left
                ·show Act.put _ (some 19) _ = _
                 simp only [Act.put, List.setIfInBounds_toArray, List.set_cons_zero, List.set_cons_succ, i64_w, i32_w]
                 rfl
                refine two_ (i := 4) (j := 6) (Ni := some 23) (Nj := some 5) #[true, true, true, true, true, false, false, false] #[true, true, true, true, false, false, true, false] rfl rfl rfl rfl (two_of HT_.out (by kernel_rfl)) (by decide) (by decide) (fun K hK => ?_) (fun K hK => ?_)
                ·skip
                 refine goes_ Tryd.func49 (by kernel_rfl) rfl #[v231, .string (rdOf ByteArray.empty t227 0)] (by rfl) rfl rfl (by (try simp only [List.map_toArray, List.map_cons, List.map_nil]); first | done | rfl | (simp only [List.length_drop, List.length_take]; rfl)) ?_
                 with_reducible refine (index_calls v231 t230 (rdOf ByteArray.empty t227 0) t234 _ (by (with_reducible repeat (first | apply Kd.R_alloc | apply Kd.R_drewN | apply Kd.R_drew)); exact HO232.out) A12.out).mono ?_
                 rintro e w' ⟨rfl, ⟨nd, rfl⟩⟩
                 refine ⟨_, rfl, ?_⟩
                 refine hK.out _ _ (hHeld) (fun hHeld => ?_)
                 clear hK K
                 refine norm_ (a' := ?_) ?_ ?_
                 rotate_left
                 ·show Act.put _ (some 23) _ = _
                  simp only [Act.put, List.setIfInBounds_toArray, List.set_cons_zero, List.set_cons_succ, i64_w, i32_w]
                  rfl
                 refine pure_ (i := 5) (N := some 24) (v := ?_) (a' := ?_) #[true, true, true, true, true, true, false, false] rfl rfl (any_of HT_.out (by kernel_rfl)) (fun _ _ _ h => h) (Or.inl ⟨by rfl, ?_⟩) ?_ ?_
                 rotate_left
                 ·intro w'
                  go_simp
                  with_reducible rfl
                 rotate_left
                 ·simp only [Act.put, List.setIfInBounds_toArray, List.set_cons_zero, List.set_cons_succ, i64_w, i32_w]
                  rfl
                 refine one_ (i := 6) (N := some 5) #[true, true, true, true, true, true, true, false] rfl rfl (one_of HT_.out (by kernel_rfl)) (by decide) (fun K hK => ?_)
                 refine box_step ?hg (N := 5) ?hd (cs := #[.int .i64 0, .int .i64 0, .int .i64 0, .int .i64 0, .int .i64 0, .int .i64 0, .int .i64 0, .int .i64 0]) (t := 37) ?hr ?_; (case hd => rfl); (case hg => rfl); (case hr => first | (go_simp; done) | (go_simp; rfl))
                 intro gb235 hg w34 hbox hb
                 have HS0_ := (hb.cell (World.block_lt_of_cell? _ _ (hHeld))).trans (hHeld)
                 replace HO_4 := az (Kd.R_below (by (with_reducible repeat (first | apply Kd.R_alloc | apply Kd.R_drewN | apply Kd.R_drew)); exact HO_4.out) hb)
                 replace HO232 := az (Kd.R_below (by (with_reducible repeat (first | apply Kd.R_alloc | apply Kd.R_drewN | apply Kd.R_drew)); exact HO232.out) hb)
                 have BK235 := az (hbox)
                 have GW235 := az ((by rw [hg]; exact (below_size (by repeat (first | (with_reducible first | exact HB.out | apply wa | apply wn | apply wd | refine ws ‹_› ?_) | exact HB.out))) : w.heap.size ≤ gb235))
                 have GE235 := GW235
                 replace HB := az (below_step (by repeat (first | (with_reducible first | exact HB.out | apply wa | apply wn | apply wd | refine ws ‹_› ?_) | exact HB.out)) hb)
                 obtain ⟨NB226_235, NB235_226⟩ := nb BK226 hg (fun h => by (with_reducible repeat (first | apply bn | apply bd | apply ba)); exact h)
                 replace BK226 := bb BK226 (fun h => by (with_reducible repeat (first | apply bn | apply bd | apply ba)); exact h) hb
                 clear hb hbox hg
                 refine hK.out _ _ (HS0_) (fun hHeld => ?_)
                 clear hK K
                 refine norm_ (a' := ?_) ?_ ?_
                 rotate_left
                 ·show Act.put _ (some 5) _ = _
                  simp only [Act.put, List.setIfInBounds_toArray, List.set_cons_zero, List.set_cons_succ, i64_w, i32_w]
                  rfl
                 exact norm_ (by simp only [putAll, Act.put, List.setIfInBounds_toArray, List.set_cons_zero, List.set_cons_succ]) (hCont (v231, gb235) _ ⟨hHeld, (by (with_reducible repeat (first | apply Kd.R_alloc | apply Kd.R_drewN | apply Kd.R_drew)); exact Kd.R_mono HO232.out (fun _ hk => hk.2)), (by (with_reducible repeat (first | apply Kd.R_alloc | apply Kd.R_drewN | apply Kd.R_drew)); exact Kd.R_mono HO_4.out (fun _ hk => hk.2)), (by (with_reducible repeat (first | apply bn | apply bd | apply ba)); exact BK226.out), (by (with_reducible repeat (first | apply bn | apply bd | apply ba)); exact BK235.out), GW235.out, GE235.out, NB226_235.out, NB235_226.out, (by repeat (first | (with_reducible first | exact HB.out | apply wa | apply wn | apply wd | refine ws ‹_› ?_) | exact HB.out))⟩)
                ·skip
                 refine box_step ?hg (N := 5) ?hd (cs := #[.int .i64 0, .int .i64 0, .int .i64 0, .int .i64 0, .int .i64 0, .int .i64 0, .int .i64 0, .int .i64 0]) (t := 37) ?hr ?_; (case hd => rfl); (case hg => rfl); (case hr => first | (go_simp; done) | (go_simp; rfl))
                 intro gb235 hg w34 hbox hb
                 have HS0_ := (hb.cell (World.block_lt_of_cell? _ _ (hHeld))).trans (hHeld)
                 replace HO_4 := az (Kd.R_below (by (with_reducible repeat (first | apply Kd.R_alloc | apply Kd.R_drewN | apply Kd.R_drew)); exact HO_4.out) hb)
                 replace HO232 := az (Kd.R_below (by (with_reducible repeat (first | apply Kd.R_alloc | apply Kd.R_drewN | apply Kd.R_drew)); exact HO232.out) hb)
                 have BK235 := az (hbox)
                 have GW235 := az ((by rw [hg]; exact (below_size (by repeat (first | (with_reducible first | exact HB.out | apply wa | apply wn | apply wd | refine ws ‹_› ?_) | exact HB.out))) : w.heap.size ≤ gb235))
                 have GE235 := GW235
                 replace HB := az (below_step (by repeat (first | (with_reducible first | exact HB.out | apply wa | apply wn | apply wd | refine ws ‹_› ?_) | exact HB.out)) hb)
                 obtain ⟨NB226_235, NB235_226⟩ := nb BK226 hg (fun h => by (with_reducible repeat (first | apply bn | apply bd | apply ba)); exact h)
                 replace BK226 := bb BK226 (fun h => by (with_reducible repeat (first | apply bn | apply bd | apply ba)); exact h) hb
                 clear hb hbox hg
                 refine hK.out _ _ (HS0_) (fun hHeld => ?_)
                 clear hK K
                 refine norm_ (a' := ?_) ?_ ?_
                 rotate_left
                 ·show Act.put _ (some 5) _ = _
                  simp only [Act.put, List.setIfInBounds_toArray, List.set_cons_zero, List.set_cons_succ, i64_w, i32_w]
                  rfl
                 refine one_ (i := 4) (N := some 23) #[true, true, true, true, true, false, true, false] rfl rfl (one_of HT_.out (by kernel_rfl)) (by decide) (fun K hK => ?_)
                 refine goes_ Tryd.func49 (by kernel_rfl) rfl #[v231, .string (rdOf ByteArray.empty t227 0)] (by rfl) rfl rfl (by (try simp only [List.map_toArray, List.map_cons, List.map_nil]); first | done | rfl | (simp only [List.length_drop, List.length_take]; rfl)) ?_
                 with_reducible refine (index_calls v231 t230 (rdOf ByteArray.empty t227 0) t234 _ (by (with_reducible repeat (first | apply Kd.R_alloc | apply Kd.R_drewN | apply Kd.R_drew)); exact HO232.out) A12.out).mono ?_
                 rintro e w' ⟨rfl, ⟨nd, rfl⟩⟩
                 refine ⟨_, rfl, ?_⟩
                 refine hK.out _ _ (hHeld) (fun hHeld => ?_)
                 clear hK K
                 refine norm_ (a' := ?_) ?_ ?_
                 rotate_left
                 ·show Act.put _ (some 23) _ = _
                  simp only [Act.put, List.setIfInBounds_toArray, List.set_cons_zero, List.set_cons_succ, i64_w, i32_w]
                  rfl
                 refine pure_ (i := 5) (N := some 24) (v := ?_) (a' := ?_) #[true, true, true, true, true, true, true, false] rfl rfl (any_of HT_.out (by kernel_rfl)) (fun _ _ _ h => h) (Or.inl ⟨by rfl, ?_⟩) ?_ ?_
                 rotate_left
                 ·intro w'
                  go_simp
                  with_reducible rfl
                 rotate_left
                 ·simp only [Act.put, List.setIfInBounds_toArray, List.set_cons_zero, List.set_cons_succ, i64_w, i32_w]
                  rfl
                 exact norm_ (by simp only [putAll, Act.put, List.setIfInBounds_toArray, List.set_cons_zero, List.set_cons_succ]) (hCont (v231, gb235) _ ⟨hHeld, (by (with_reducible repeat (first | apply Kd.R_alloc | apply Kd.R_drewN | apply Kd.R_drew)); exact Kd.R_mono HO232.out (fun _ hk => hk.2)), (by (with_reducible repeat (first | apply Kd.R_alloc | apply Kd.R_drewN | apply Kd.R_drew)); exact Kd.R_mono HO_4.out (fun _ hk => hk.2)), (by (with_reducible repeat (first | apply bn | apply bd | apply ba)); exact BK226.out), (by (with_reducible repeat (first | apply bn | apply bd | apply ba)); exact BK235.out), GW235.out, GE235.out, NB226_235.out, NB235_226.out, (by repeat (first | (with_reducible first | exact HB.out | apply wa | apply wn | apply wd | refine ws ‹_› ?_) | exact HB.out))⟩)
               ·skip
                refine box_step ?hg (N := 5) ?hd (cs := #[.int .i64 0, .int .i64 0, .int .i64 0, .int .i64 0, .int .i64 0, .int .i64 0, .int .i64 0, .int .i64 0]) (t := 37) ?hr ?_; (case hd => rfl); (case hg => rfl); (case hr => first | (go_simp; done) | (go_simp; rfl))
                intro gb235 hg w33 hbox hb
                have HS0_ := (hb.cell (World.block_lt_of_cell? _ _ (hHeld))).trans (hHeld)
                replace HO_4 := az (Kd.R_below (by (with_reducible repeat (first | apply Kd.R_alloc | apply Kd.R_drewN | apply Kd.R_drew)); exact HO_4.out) hb)
                have BK235 := az (hbox)
                have GW235 := az ((by rw [hg]; exact (below_size (by repeat (first | (with_reducible first | exact HB.out | apply wa | apply wn | apply wd | refine ws ‹_› ?_) | exact HB.out))) : w.heap.size ≤ gb235))
                have GE235 := GW235
                replace HB := az (below_step (by repeat (first | (with_reducible first | exact HB.out | apply wa | apply wn | apply wd | refine ws ‹_› ?_) | exact HB.out)) hb)
                obtain ⟨NB226_235, NB235_226⟩ := nb BK226 hg (fun h => by (with_reducible repeat (first | apply bn | apply bd | apply ba)); exact h)
                replace BK226 := bb BK226 (fun h => by (with_reducible repeat (first | apply bn | apply bd | apply ba)); exact h) hb
                clear hb hbox hg
                refine hK.out _ _ (HS0_) (fun hHeld => ?_)
                clear hK K
                refine norm_ (a' := ?_) ?_ ?_
                rotate_left
                ·show Act.put _ (some 5) _ = _
                 simp only [Act.put, List.setIfInBounds_toArray, List.set_cons_zero, List.set_cons_succ, i64_w, i32_w]
                 rfl
                refine one_ (i := 0) (N := some 19) #[true, true, true, true, false, false, true, false] rfl rfl (one_of HT_.out (by kernel_rfl)) (by decide) (fun K hK => ?_)
                refine goes_ Tryd.func45 (by kernel_rfl) rfl #[] (by rfl) rfl rfl (by (try simp only [List.map_toArray, List.map_cons, List.map_nil]); first | done | rfl | (simp only [List.length_drop, List.length_take]; rfl)) ?_
                with_reducible refine (impl_recNames.calls  t230 _ A10.out).mono ?_
                rintro e w34 ⟨v231, rfl, ho0, hb⟩
                have HS0_ := (hb.cell (World.block_lt_of_cell? _ _ (hHeld))).trans (hHeld)
                refine ⟨_, rfl, ?_⟩
                have HO232 := az (Kd.R_lower (Kd.R_new' ho0 (Kd.R_lt (by (with_reducible repeat (first | apply Kd.R_alloc | apply Kd.R_drewN | apply Kd.R_drew)); exact HO_4.out))) (below_size (by repeat (first | (with_reducible first | exact HB.out | apply wa | apply wn | apply wd | refine ws ‹_› ?_) | exact HB.out))))
                replace HO_4 := az (Kd.R_elder' (by (with_reducible repeat (first | apply Kd.R_alloc | apply Kd.R_drewN | apply Kd.R_drew)); exact HO_4.out) (Kd.R_base ho0) hb)
                replace BK226 := bb BK226 (fun h => by (with_reducible repeat (first | apply bn | apply bd | apply ba)); exact h) hb
                replace BK235 := bb BK235 (fun h => by (with_reducible repeat (first | apply bn | apply bd | apply ba)); exact h) hb
                replace HB := az (below_step (by repeat (first | (with_reducible first | exact HB.out | apply wa | apply wn | apply wd | refine ws ‹_› ?_) | exact HB.out)) hb)
                (try clear hb);(try clear hb2);(try clear hk);(try clear hi);(try clear ho0)
                refine hK.out _ _ (HS0_) (fun hHeld => ?_)
                clear hK K
                refine norm_ (a' := ?_) ?_ ?_
                rotate_left
                ·show Act.put _ (some 19) _ = _
                 simp only [Act.put, List.setIfInBounds_toArray, List.set_cons_zero, List.set_cons_succ, i64_w, i32_w]
                 rfl
                refine one_ (i := 4) (N := some 23) #[true, true, true, true, true, false, true, false] rfl rfl (one_of HT_.out (by kernel_rfl)) (by decide) (fun K hK => ?_)
                refine goes_ Tryd.func49 (by kernel_rfl) rfl #[v231, .string (rdOf ByteArray.empty t227 0)] (by rfl) rfl rfl (by (try simp only [List.map_toArray, List.map_cons, List.map_nil]); first | done | rfl | (simp only [List.length_drop, List.length_take]; rfl)) ?_
                with_reducible refine (index_calls v231 t230 (rdOf ByteArray.empty t227 0) t234 _ (by (with_reducible repeat (first | apply Kd.R_alloc | apply Kd.R_drewN | apply Kd.R_drew)); exact HO232.out) A12.out).mono ?_
                rintro e w' ⟨rfl, ⟨nd, rfl⟩⟩
                refine ⟨_, rfl, ?_⟩
                refine hK.out _ _ (hHeld) (fun hHeld => ?_)
                clear hK K
                refine norm_ (a' := ?_) ?_ ?_
                rotate_left
                ·show Act.put _ (some 23) _ = _
                 simp only [Act.put, List.setIfInBounds_toArray, List.set_cons_zero, List.set_cons_succ, i64_w, i32_w]
                 rfl
                refine pure_ (i := 5) (N := some 24) (v := ?_) (a' := ?_) #[true, true, true, true, true, true, true, false] rfl rfl (any_of HT_.out (by kernel_rfl)) (fun _ _ _ h => h) (Or.inl ⟨by rfl, ?_⟩) ?_ ?_
                rotate_left
                ·intro w'
                 go_simp
                 with_reducible rfl
                rotate_left
                ·simp only [Act.put, List.setIfInBounds_toArray, List.set_cons_zero, List.set_cons_succ, i64_w, i32_w]
                 rfl
                exact norm_ (by simp only [putAll, Act.put, List.setIfInBounds_toArray, List.set_cons_zero, List.set_cons_succ]) (hCont (v231, gb235) _ ⟨hHeld, (by (with_reducible repeat (first | apply Kd.R_alloc | apply Kd.R_drewN | apply Kd.R_drew)); exact Kd.R_mono HO232.out (fun _ hk => hk.2)), (by (with_reducible repeat (first | apply Kd.R_alloc | apply Kd.R_drewN | apply Kd.R_drew)); exact Kd.R_mono HO_4.out (fun _ hk => hk.2)), (by (with_reducible repeat (first | apply bn | apply bd | apply ba)); exact BK226.out), (by (with_reducible repeat (first | apply bn | apply bd | apply ba)); exact BK235.out), GW235.out, GE235.out, NB226_235.out, NB235_226.out, (by repeat (first | (with_reducible first | exact HB.out | apply wa | apply wn | apply wd | refine ws ‹_› ?_) | exact HB.out))⟩)
              rintro ⟨v231, gb235⟩ w35 ⟨hS_, h0_, h1_, h2_, h3_, h4_, h5_, h6_, h7_, h8_⟩
              have HO232 : Aside0 (Kd.R Kd.string 9 w35 w.heap.size (fun k_ => some k_ ≠ (.slice (some ad233) t227.length co32 : Value).ownBlock) v231 t230) := ⟨h0_⟩
              replace HO_4 : Aside0 (Kd.R Kd.string 9 w35 w.heap.size (fun k_ => some k_ ≠ (v231 : Value).ownBlock) (.slice (some ad233) t227.length co32) t227) := ⟨h1_⟩
              replace BK226 : Aside0 (w35.heap[gb226]? = some (.cells #[.int .i64 0, .int .i64 0, .int .i64 0, .int .i64 0, .int .i64 0, .int .i64 0, .int .i64 0, .int .i64 0] 37 (0, 0))) := ⟨h2_⟩
              have BK235 : Aside0 (w35.heap[gb235]? = some (.cells #[.int .i64 0, .int .i64 0, .int .i64 0, .int .i64 0, .int .i64 0, .int .i64 0, .int .i64 0, .int .i64 0] 37 (0, 0))) := ⟨h3_⟩
              have GW235 : Aside0 (w.heap.size ≤ gb235) := ⟨h4_⟩
              have GE235 : Aside0 (w.heap.size ≤ gb235) := ⟨h5_⟩
              have NB226_235 : Aside0 (gb226 ≠ gb235) := ⟨h6_⟩
              have NB235_226 : Aside0 (gb235 ≠ gb226) := ⟨h7_⟩
              replace HB : Aside0 (Below w.heap.size w w35) := ⟨h8_⟩
              clear h0_ h1_ h2_ h3_ h4_ h5_ h6_ h7_ h8_
              have hHeld : w35.cell? ad233 = some (.string (rdOf ByteArray.empty t227 0)) := hS_
              refine norm_ (a' := ?_) ?_ ?_
              rotate_left
              ·simp only [putAll, Act.put, List.setIfInBounds_toArray, List.set_cons_zero, List.set_cons_succ]
               rfl
              refine one_ (i := 7) (N := none) #[true, true, true, true, true, true, true, true] rfl rfl (one_of HT_.out (by kernel_rfl)) (by decide) (fun K hK => ?_)
              have hs36 : w35.cell? ⟨gb235, 0, none⟩ = some (.int .i64 0) := bt BK235 rfl
              have hfs36 := blk_frozen BK235.out 0
              have hns36_0 := NB226_235.out
              have hms36_0 := NB235_226.out
              have hs37 : w35.cell? ⟨gb235, 1, none⟩ = some (.int .i64 0) := bt BK235 rfl
              have hfs37 := blk_frozen BK235.out 1
              have hns37_0 := NB226_235.out
              have hms37_0 := NB235_226.out
              have hs38 : w35.cell? ⟨gb235, 2, none⟩ = some (.int .i64 0) := bt BK235 rfl
              have hfs38 := blk_frozen BK235.out 2
              have hns38_0 := NB226_235.out
              have hms38_0 := NB235_226.out
              have hs39 : w35.cell? ⟨gb235, 3, none⟩ = some (.int .i64 0) := bt BK235 rfl
              have hfs39 := blk_frozen BK235.out 3
              have hns39_0 := NB226_235.out
              have hms39_0 := NB235_226.out
              have hs40 : w35.cell? ⟨gb235, 4, none⟩ = some (.int .i64 0) := bt BK235 rfl
              have hfs40 := blk_frozen BK235.out 4
              have hns40_0 := NB226_235.out
              have hms40_0 := NB235_226.out
              have hs41 : w35.cell? ⟨gb235, 5, none⟩ = some (.int .i64 0) := bt BK235 rfl
              have hfs41 := blk_frozen BK235.out 5
              have hns41_0 := NB226_235.out
              have hms41_0 := NB235_226.out
              have hs42 : w35.cell? ⟨gb235, 6, none⟩ = some (.int .i64 0) := bt BK235 rfl
              have hfs42 := blk_frozen BK235.out 6
              have hns42_0 := NB226_235.out
              have hms42_0 := NB235_226.out
              have hs43 : w35.cell? ⟨gb235, 7, none⟩ = some (.int .i64 0) := bt BK235 rfl
              have hfs43 := blk_frozen BK235.out 7
              have hns43_0 := NB226_235.out
              have hms43_0 := NB235_226.out
              refine skip_ (w1 := ?_) (by rfl) rfl ?_ ?_
              rotate_left
              ·go_simp
               rfl
              refine hK.out _ _ (((cell_far (p := ⟨gb235, _, none⟩) (by first | exact Kd.own_blk (Kd.R_ne HO_4.out BK235.out (by decide)) | (rw [add_block]; exact Kd.own_blk (Kd.R_ne HO_4.out BK235.out (by decide))) | (show (Addr.add _ _).block ≠ _; rw [add_block]; exact Kd.own_blk (Kd.R_ne HO_4.out BK235.out (by decide))) | (dsimp only; exact Kd.own_blk (Kd.R_ne HO_4.out BK235.out (by decide)))) _).trans (((cell_far (p := ⟨gb235, _, none⟩) (by first | exact Kd.own_blk (Kd.R_ne HO_4.out BK235.out (by decide)) | (rw [add_block]; exact Kd.own_blk (Kd.R_ne HO_4.out BK235.out (by decide))) | (show (Addr.add _ _).block ≠ _; rw [add_block]; exact Kd.own_blk (Kd.R_ne HO_4.out BK235.out (by decide))) | (dsimp only; exact Kd.own_blk (Kd.R_ne HO_4.out BK235.out (by decide)))) _).trans (((cell_far (p := ⟨gb235, _, none⟩) (by first | exact Kd.own_blk (Kd.R_ne HO_4.out BK235.out (by decide)) | (rw [add_block]; exact Kd.own_blk (Kd.R_ne HO_4.out BK235.out (by decide))) | (show (Addr.add _ _).block ≠ _; rw [add_block]; exact Kd.own_blk (Kd.R_ne HO_4.out BK235.out (by decide))) | (dsimp only; exact Kd.own_blk (Kd.R_ne HO_4.out BK235.out (by decide)))) _).trans (((cell_far (p := ⟨gb235, _, none⟩) (by first | exact Kd.own_blk (Kd.R_ne HO_4.out BK235.out (by decide)) | (rw [add_block]; exact Kd.own_blk (Kd.R_ne HO_4.out BK235.out (by decide))) | (show (Addr.add _ _).block ≠ _; rw [add_block]; exact Kd.own_blk (Kd.R_ne HO_4.out BK235.out (by decide))) | (dsimp only; exact Kd.own_blk (Kd.R_ne HO_4.out BK235.out (by decide)))) _).trans (((cell_far (p := ⟨gb235, _, none⟩) (by first | exact Kd.own_blk (Kd.R_ne HO_4.out BK235.out (by decide)) | (rw [add_block]; exact Kd.own_blk (Kd.R_ne HO_4.out BK235.out (by decide))) | (show (Addr.add _ _).block ≠ _; rw [add_block]; exact Kd.own_blk (Kd.R_ne HO_4.out BK235.out (by decide))) | (dsimp only; exact Kd.own_blk (Kd.R_ne HO_4.out BK235.out (by decide)))) _).trans (((cell_far (p := ⟨gb235, _, none⟩) (by first | exact Kd.own_blk (Kd.R_ne HO_4.out BK235.out (by decide)) | (rw [add_block]; exact Kd.own_blk (Kd.R_ne HO_4.out BK235.out (by decide))) | (show (Addr.add _ _).block ≠ _; rw [add_block]; exact Kd.own_blk (Kd.R_ne HO_4.out BK235.out (by decide))) | (dsimp only; exact Kd.own_blk (Kd.R_ne HO_4.out BK235.out (by decide)))) _).trans (((cell_far (p := ⟨gb235, _, none⟩) (by first | exact Kd.own_blk (Kd.R_ne HO_4.out BK235.out (by decide)) | (rw [add_block]; exact Kd.own_blk (Kd.R_ne HO_4.out BK235.out (by decide))) | (show (Addr.add _ _).block ≠ _; rw [add_block]; exact Kd.own_blk (Kd.R_ne HO_4.out BK235.out (by decide))) | (dsimp only; exact Kd.own_blk (Kd.R_ne HO_4.out BK235.out (by decide)))) _).trans (((cell_far (p := ⟨gb235, _, none⟩) (by first | exact Kd.own_blk (Kd.R_ne HO_4.out BK235.out (by decide)) | (rw [add_block]; exact Kd.own_blk (Kd.R_ne HO_4.out BK235.out (by decide))) | (show (Addr.add _ _).block ≠ _; rw [add_block]; exact Kd.own_blk (Kd.R_ne HO_4.out BK235.out (by decide))) | (dsimp only; exact Kd.own_blk (Kd.R_ne HO_4.out BK235.out (by decide)))) _).trans (hHeld))))))))))))))))) (fun hHeld => ?_)
              clear hK K
              refine done_ (done_of HT_.out (by kernel_rfl)) ?_
              have n0_ := az (Kd.R_mono (ok' := fun _ => True) (Kd.R_far (p := ⟨gb235, 7, none⟩) (Kd.R_far (p := ⟨gb235, 6, none⟩) (Kd.R_far (p := ⟨gb235, 5, none⟩) (Kd.R_far (p := ⟨gb235, 4, none⟩) (Kd.R_far (p := ⟨gb235, 3, none⟩) (Kd.R_far (p := ⟨gb235, 2, none⟩) (Kd.R_far (p := ⟨gb235, 1, none⟩) (Kd.R_far (p := ⟨gb235, 0, none⟩) (Kd.R_types HO_4.out BK235.out (by decide)) (fun _ hk => hk.2) (.int .i64 t234)) (fun _ hk => hk.2) (.int .i64 0)) (fun _ hk => hk.2) (.int .i64 0)) (fun _ hk => hk.2) (.int .i64 0)) (fun _ hk => hk.2) (.int .i64 0)) (fun _ hk => hk.2) (.int .i64 0)) (fun _ hk => hk.2) (.int .i64 0)) (fun _ hk => hk.2) (.int .i64 0)) (fun _ _ => trivial))
              have n1_ := az (blk_far (p := ⟨gb235, 7, none⟩) (blk_far (p := ⟨gb235, 6, none⟩) (blk_far (p := ⟨gb235, 5, none⟩) (blk_far (p := ⟨gb235, 4, none⟩) (blk_far (p := ⟨gb235, 3, none⟩) (blk_far (p := ⟨gb235, 2, none⟩) (blk_far (p := ⟨gb235, 1, none⟩) (blk_far (p := ⟨gb235, 0, none⟩) (BK226.out) NB226_235.out (.int .i64 t234)) NB226_235.out (.int .i64 0)) NB226_235.out (.int .i64 0)) NB226_235.out (.int .i64 0)) NB226_235.out (.int .i64 0)) NB226_235.out (.int .i64 0)) NB226_235.out (.int .i64 0)) NB226_235.out (.int .i64 0))
              have n2_ := az (blk_put (cs := #[.int .i64 t234, .int .i64 0, .int .i64 0, .int .i64 0, .int .i64 0, .int .i64 0, .int .i64 0, .int .i64 0]) (cs' := #[.int .i64 t234, .int .i64 0, .int .i64 0, .int .i64 0, .int .i64 0, .int .i64 0, .int .i64 0, .int .i64 0]) (blk_put (cs := #[.int .i64 t234, .int .i64 0, .int .i64 0, .int .i64 0, .int .i64 0, .int .i64 0, .int .i64 0, .int .i64 0]) (cs' := #[.int .i64 t234, .int .i64 0, .int .i64 0, .int .i64 0, .int .i64 0, .int .i64 0, .int .i64 0, .int .i64 0]) (blk_put (cs := #[.int .i64 t234, .int .i64 0, .int .i64 0, .int .i64 0, .int .i64 0, .int .i64 0, .int .i64 0, .int .i64 0]) (cs' := #[.int .i64 t234, .int .i64 0, .int .i64 0, .int .i64 0, .int .i64 0, .int .i64 0, .int .i64 0, .int .i64 0]) (blk_put (cs := #[.int .i64 t234, .int .i64 0, .int .i64 0, .int .i64 0, .int .i64 0, .int .i64 0, .int .i64 0, .int .i64 0]) (cs' := #[.int .i64 t234, .int .i64 0, .int .i64 0, .int .i64 0, .int .i64 0, .int .i64 0, .int .i64 0, .int .i64 0]) (blk_put (cs := #[.int .i64 t234, .int .i64 0, .int .i64 0, .int .i64 0, .int .i64 0, .int .i64 0, .int .i64 0, .int .i64 0]) (cs' := #[.int .i64 t234, .int .i64 0, .int .i64 0, .int .i64 0, .int .i64 0, .int .i64 0, .int .i64 0, .int .i64 0]) (blk_put (cs := #[.int .i64 t234, .int .i64 0, .int .i64 0, .int .i64 0, .int .i64 0, .int .i64 0, .int .i64 0, .int .i64 0]) (cs' := #[.int .i64 t234, .int .i64 0, .int .i64 0, .int .i64 0, .int .i64 0, .int .i64 0, .int .i64 0, .int .i64 0]) (blk_put (cs := #[.int .i64 t234, .int .i64 0, .int .i64 0, .int .i64 0, .int .i64 0, .int .i64 0, .int .i64 0, .int .i64 0]) (cs' := #[.int .i64 t234, .int .i64 0, .int .i64 0, .int .i64 0, .int .i64 0, .int .i64 0, .int .i64 0, .int .i64 0]) (blk_put (cs := #[.int .i64 0, .int .i64 0, .int .i64 0, .int .i64 0, .int .i64 0, .int .i64 0, .int .i64 0, .int .i64 0]) (cs' := #[.int .i64 t234, .int .i64 0, .int .i64 0, .int .i64 0, .int .i64 0, .int .i64 0, .int .i64 0, .int .i64 0]) (BK235.out) 0 (.int .i64 t234) rfl) 1 (.int .i64 0) rfl) 2 (.int .i64 0) rfl) 3 (.int .i64 0) rfl) 4 (.int .i64 0) rfl) 5 (.int .i64 0) rfl) 6 (.int .i64 0) rfl) 7 (.int .i64 0) rfl)
              have n3_ := az (below_set (j := 7) (v := .int .i64 0) (below_set (j := 6) (v := .int .i64 0) (below_set (j := 5) (v := .int .i64 0) (below_set (j := 4) (v := .int .i64 0) (below_set (j := 3) (v := .int .i64 0) (below_set (j := 2) (v := .int .i64 0) (below_set (j := 1) (v := .int .i64 0) (below_set (j := 0) (v := .int .i64 t234) (HB.out) GE235.out) GE235.out) GE235.out) GE235.out) GE235.out) GE235.out) GE235.out) GE235.out)
              clear HO_4 HO232 BK226 BK235 HB hHeld
              refine hideE_ (fun w' => Aside0 (Kd.R Kd.string 9 w' w.heap.size (fun _ => True) (.slice (some ad233) t227.length co32) t227) ∧ Aside0 (w'.heap[gb226]? = some (.cells #[.int .i64 0, .int .i64 0, .int .i64 0, .int .i64 0, .int .i64 0, .int .i64 0, .int .i64 0, .int .i64 0] 37 (0, 0))) ∧ Aside0 (w'.heap[gb235]? = some (.cells #[.int .i64 t234, .int .i64 0, .int .i64 0, .int .i64 0, .int .i64 0, .int .i64 0, .int .i64 0, .int .i64 0] 37 (0, 0))) ∧ Aside0 (Below w.heap.size w w')) ⟨n0_, n1_, n2_, n3_⟩ (fun wl hl => ?_)
              clear n0_ n1_ n2_ n3_
              obtain ⟨HO_4, BK226, BK235, HB⟩ := hl
              have hgl := az (blk_lt BK235.out)
              go_wp2_with fail
              go_loopw [34] (fun s34 wr => ∃ k : Nat, k ≤ 7 ∧ s34 = .int .i64 k ∧ Aside0 (Kd.R Kd.string 9 wr w.heap.size (fun _ => True) (.slice (some ad233) t227.length co32) t227) ∧ Aside0 (wr.heap[gb226]? = some (.cells #[.int .i64 0, .int .i64 0, .int .i64 0, .int .i64 0, .int .i64 0, .int .i64 0, .int .i64 0, .int .i64 0] 37 (0, 0))) ∧ Aside0 (wr.heap[gb235]? = some (.cells (boxAt t234 t237 t239 t241 t243 t245 t247 t249 k) 37 (0, 0))) ∧ Aside0 (wr.heap[wl.heap.size]? = some (.cells #[.pointer (some ⟨gb235, 1, none⟩), .pointer (some ⟨gb235, 2, none⟩), .pointer (some ⟨gb235, 3, none⟩), .pointer (some ⟨gb235, 4, none⟩), .pointer (some ⟨gb235, 5, none⟩), .pointer (some ⟨gb235, 6, none⟩), .pointer (some ⟨gb235, 7, none⟩)] 71 (0, 0))) ∧ Aside0 (Below w.heap.size w wr)) (fun s34 _ => 7 - (intOf s34).toNat)
              case atStart => exact ⟨0, by omega, rfl, ⟨Kd.R_alloc HO_4.out _⟩, ⟨blk_alloc BK226.out _⟩, ⟨blk_alloc BK235.out _⟩, ⟨blk_new _ _⟩, ⟨wa HB.out⟩⟩
              case round =>
               clear HO_4 BK226 BK235 HB
               obtain ⟨k, hk, rfl, HOr, B6, B5, BP, HBr⟩ := hrel
               have hk7 : k = 0 ∨ k = 1 ∨ k = 2 ∨ k = 3 ∨ k = 4 ∨ k = 5 ∨ k = 6 ∨ k = 7 := by omega
               clear hk
               rcases hk7 with rfl | rfl | rfl | rfl | rfl | rfl | rfl | rfl
               ·have hp : wr.cell? ⟨wl.heap.size, 0, none⟩ = some (.pointer (some ⟨gb235, 1, none⟩)) := bt BP rfl
                have pq : 0 ≤ (1 : Int) := (by omega)
                have qq : (1 : Int) < (t227.length : Int) := of_decide_eq_true (by first | (with_reducible assumption) | assumption)
                obtain ⟨adq, eq, hxq⟩ := Kd.at_string (Kd.R_reads' HOr.out).2.2 1 pq qq
                obtain rfl : ad233 = adq := (by injection eq)
                (try simp only [show (1 : Int).toNat = 1 from rfl, Nat.reduceMul, Nat.reduceEqDiff, Go.Addr.add, ↓reduceIte] at hxq)
                have qi : (1 < t227.length) = True := eq_true (by omega)
                replace pq := eq_true pq
                replace qq := eq_true qq
                obtain ⟨hat1, hat2⟩ := atoiO_some A14.out
                have hs : wr.cell? ⟨gb235, 1, none⟩ = some (.int .i64 0) := bt B5 rfl
                have hfs := blk_frozen B5.out 1
                go_wp2_with fail
                refine (atoi_calls (rdOf ByteArray.empty t227 1) _ hat1 (HD.out.on HBr.out)).mono ?_
                rintro e wq ⟨ev, rfl, hb⟩
                rw [hat2]
                have HO2 := az (Kd.R_below HOr.out hb)
                have C6 := az (blk_below B6.out hb)
                have C5 := az (blk_below B5.out hb)
                have CP := az (blk_below BP.out hb)
                have HB2 := az (below_step HBr.out hb)
                clear hb
                have hs2 : wq.cell? ⟨gb235, 1, none⟩ = some (.int .i64 0) := bt C5 rfl
                have hfs2 := blk_frozen C5.out 1
                go_wp2_with fail
                go_roundw
                case rel => exact ⟨1, by omega, by go_num, ⟨Kd.R_mono (Kd.R_far (p := ⟨gb235, 1, none⟩) (Kd.R_types HO2.out C5.out (by decide)) (fun _ hk => hk.2) _) (fun _ _ => trivial)⟩, ⟨blk_far C6.out NB226_235.out _⟩, ⟨blk_put C5.out 1 _ rfl⟩, ⟨blk_far CP.out (by have := hgl.out; show wl.heap.size ≠ gb235; omega) _⟩, ⟨below_set HB2.out GE235.out⟩⟩
                case measure => simp [intOf]
               ·have hp : wr.cell? ⟨wl.heap.size, 1, none⟩ = some (.pointer (some ⟨gb235, 2, none⟩)) := bt BP rfl
                have pq : 0 ≤ (2 : Int) := (by omega)
                have qq : (2 : Int) < (t227.length : Int) := of_decide_eq_true (by first | (with_reducible assumption) | assumption)
                obtain ⟨adq, eq, hxq⟩ := Kd.at_string (Kd.R_reads' HOr.out).2.2 2 pq qq
                obtain rfl : ad233 = adq := (by injection eq)
                (try simp only [show (2 : Int).toNat = 2 from rfl, Nat.reduceMul, Nat.reduceEqDiff, Go.Addr.add, ↓reduceIte] at hxq)
                have qi : (2 < t227.length) = True := eq_true (by omega)
                replace pq := eq_true pq
                replace qq := eq_true qq
                obtain ⟨hat1, hat2⟩ := atoiO_some A16.out
                have hs : wr.cell? ⟨gb235, 2, none⟩ = some (.int .i64 0) := bt B5 rfl
                have hfs := blk_frozen B5.out 2
                go_wp2_with fail
                refine (atoi_calls (rdOf ByteArray.empty t227 2) _ hat1 (HD.out.on HBr.out)).mono ?_
                rintro e wq ⟨ev, rfl, hb⟩
                rw [hat2]
                have HO2 := az (Kd.R_below HOr.out hb)
                have C6 := az (blk_below B6.out hb)
                have C5 := az (blk_below B5.out hb)
                have CP := az (blk_below BP.out hb)
                have HB2 := az (below_step HBr.out hb)
                clear hb
                have hs2 : wq.cell? ⟨gb235, 2, none⟩ = some (.int .i64 0) := bt C5 rfl
                have hfs2 := blk_frozen C5.out 2
                go_wp2_with fail
                go_roundw
                case rel => exact ⟨2, by omega, by go_num, ⟨Kd.R_mono (Kd.R_far (p := ⟨gb235, 2, none⟩) (Kd.R_types HO2.out C5.out (by decide)) (fun _ hk => hk.2) _) (fun _ _ => trivial)⟩, ⟨blk_far C6.out NB226_235.out _⟩, ⟨blk_put C5.out 2 _ rfl⟩, ⟨blk_far CP.out (by have := hgl.out; show wl.heap.size ≠ gb235; omega) _⟩, ⟨below_set HB2.out GE235.out⟩⟩
                case measure => simp [intOf]
               ·have hp : wr.cell? ⟨wl.heap.size, 2, none⟩ = some (.pointer (some ⟨gb235, 3, none⟩)) := bt BP rfl
                have pq : 0 ≤ (3 : Int) := (by omega)
                have qq : (3 : Int) < (t227.length : Int) := of_decide_eq_true (by first | (with_reducible assumption) | assumption)
                obtain ⟨adq, eq, hxq⟩ := Kd.at_string (Kd.R_reads' HOr.out).2.2 3 pq qq
                obtain rfl : ad233 = adq := (by injection eq)
                (try simp only [show (3 : Int).toNat = 3 from rfl, Nat.reduceMul, Nat.reduceEqDiff, Go.Addr.add, ↓reduceIte] at hxq)
                have qi : (3 < t227.length) = True := eq_true (by omega)
                replace pq := eq_true pq
                replace qq := eq_true qq
                obtain ⟨hat1, hat2⟩ := atoiO_some A18.out
                have hs : wr.cell? ⟨gb235, 3, none⟩ = some (.int .i64 0) := bt B5 rfl
                have hfs := blk_frozen B5.out 3
                go_wp2_with fail
                refine (atoi_calls (rdOf ByteArray.empty t227 3) _ hat1 (HD.out.on HBr.out)).mono ?_
                rintro e wq ⟨ev, rfl, hb⟩
                rw [hat2]
                have HO2 := az (Kd.R_below HOr.out hb)
                have C6 := az (blk_below B6.out hb)
                have C5 := az (blk_below B5.out hb)
                have CP := az (blk_below BP.out hb)
                have HB2 := az (below_step HBr.out hb)
                clear hb
                have hs2 : wq.cell? ⟨gb235, 3, none⟩ = some (.int .i64 0) := bt C5 rfl
                have hfs2 := blk_frozen C5.out 3
                go_wp2_with fail
                go_roundw
                case rel => exact ⟨3, by omega, by go_num, ⟨Kd.R_mono (Kd.R_far (p := ⟨gb235, 3, none⟩) (Kd.R_types HO2.out C5.out (by decide)) (fun _ hk => hk.2) _) (fun _ _ => trivial)⟩, ⟨blk_far C6.out NB226_235.out _⟩, ⟨blk_put C5.out 3 _ rfl⟩, ⟨blk_far CP.out (by have := hgl.out; show wl.heap.size ≠ gb235; omega) _⟩, ⟨below_set HB2.out GE235.out⟩⟩
                case measure => simp [intOf]
               ·have hp : wr.cell? ⟨wl.heap.size, 3, none⟩ = some (.pointer (some ⟨gb235, 4, none⟩)) := bt BP rfl
                have pq : 0 ≤ (4 : Int) := (by omega)
                have qq : (4 : Int) < (t227.length : Int) := of_decide_eq_true (by first | (with_reducible assumption) | assumption)
                obtain ⟨adq, eq, hxq⟩ := Kd.at_string (Kd.R_reads' HOr.out).2.2 4 pq qq
                obtain rfl : ad233 = adq := (by injection eq)
                (try simp only [show (4 : Int).toNat = 4 from rfl, Nat.reduceMul, Nat.reduceEqDiff, Go.Addr.add, ↓reduceIte] at hxq)
                have qi : (4 < t227.length) = True := eq_true (by omega)
                replace pq := eq_true pq
                replace qq := eq_true qq
                obtain ⟨hat1, hat2⟩ := atoiO_some A20.out
                have hs : wr.cell? ⟨gb235, 4, none⟩ = some (.int .i64 0) := bt B5 rfl
                have hfs := blk_frozen B5.out 4
                go_wp2_with fail
                refine (atoi_calls (rdOf ByteArray.empty t227 4) _ hat1 (HD.out.on HBr.out)).mono ?_
                rintro e wq ⟨ev, rfl, hb⟩
                rw [hat2]
                have HO2 := az (Kd.R_below HOr.out hb)
                have C6 := az (blk_below B6.out hb)
                have C5 := az (blk_below B5.out hb)
                have CP := az (blk_below BP.out hb)
                have HB2 := az (below_step HBr.out hb)
                clear hb
                have hs2 : wq.cell? ⟨gb235, 4, none⟩ = some (.int .i64 0) := bt C5 rfl
                have hfs2 := blk_frozen C5.out 4
                go_wp2_with fail
                go_roundw
                case rel => exact ⟨4, by omega, by go_num, ⟨Kd.R_mono (Kd.R_far (p := ⟨gb235, 4, none⟩) (Kd.R_types HO2.out C5.out (by decide)) (fun _ hk => hk.2) _) (fun _ _ => trivial)⟩, ⟨blk_far C6.out NB226_235.out _⟩, ⟨blk_put C5.out 4 _ rfl⟩, ⟨blk_far CP.out (by have := hgl.out; show wl.heap.size ≠ gb235; omega) _⟩, ⟨below_set HB2.out GE235.out⟩⟩
                case measure => simp [intOf]
               ·have hp : wr.cell? ⟨wl.heap.size, 4, none⟩ = some (.pointer (some ⟨gb235, 5, none⟩)) := bt BP rfl
                have pq : 0 ≤ (5 : Int) := (by omega)
                have qq : (5 : Int) < (t227.length : Int) := of_decide_eq_true (by first | (with_reducible assumption) | assumption)
                obtain ⟨adq, eq, hxq⟩ := Kd.at_string (Kd.R_reads' HOr.out).2.2 5 pq qq
                obtain rfl : ad233 = adq := (by injection eq)
                (try simp only [show (5 : Int).toNat = 5 from rfl, Nat.reduceMul, Nat.reduceEqDiff, Go.Addr.add, ↓reduceIte] at hxq)
                have qi : (5 < t227.length) = True := eq_true (by omega)
                replace pq := eq_true pq
                replace qq := eq_true qq
                obtain ⟨hat1, hat2⟩ := atoiO_some A22.out
                have hs : wr.cell? ⟨gb235, 5, none⟩ = some (.int .i64 0) := bt B5 rfl
                have hfs := blk_frozen B5.out 5
                go_wp2_with fail
                refine (atoi_calls (rdOf ByteArray.empty t227 5) _ hat1 (HD.out.on HBr.out)).mono ?_
                rintro e wq ⟨ev, rfl, hb⟩
                rw [hat2]
                have HO2 := az (Kd.R_below HOr.out hb)
                have C6 := az (blk_below B6.out hb)
                have C5 := az (blk_below B5.out hb)
                have CP := az (blk_below BP.out hb)
                have HB2 := az (below_step HBr.out hb)
                clear hb
                have hs2 : wq.cell? ⟨gb235, 5, none⟩ = some (.int .i64 0) := bt C5 rfl
                have hfs2 := blk_frozen C5.out 5
                go_wp2_with fail
                go_roundw
                case rel => exact ⟨5, by omega, by go_num, ⟨Kd.R_mono (Kd.R_far (p := ⟨gb235, 5, none⟩) (Kd.R_types HO2.out C5.out (by decide)) (fun _ hk => hk.2) _) (fun _ _ => trivial)⟩, ⟨blk_far C6.out NB226_235.out _⟩, ⟨blk_put C5.out 5 _ rfl⟩, ⟨blk_far CP.out (by have := hgl.out; show wl.heap.size ≠ gb235; omega) _⟩, ⟨below_set HB2.out GE235.out⟩⟩
                case measure => simp [intOf]
               ·have hp : wr.cell? ⟨wl.heap.size, 5, none⟩ = some (.pointer (some ⟨gb235, 6, none⟩)) := bt BP rfl
                have pq : 0 ≤ (6 : Int) := (by omega)
                have qq : (6 : Int) < (t227.length : Int) := of_decide_eq_true (by first | (with_reducible assumption) | assumption)
                obtain ⟨adq, eq, hxq⟩ := Kd.at_string (Kd.R_reads' HOr.out).2.2 6 pq qq
                obtain rfl : ad233 = adq := (by injection eq)
                (try simp only [show (6 : Int).toNat = 6 from rfl, Nat.reduceMul, Nat.reduceEqDiff, Go.Addr.add, ↓reduceIte] at hxq)
                have qi : (6 < t227.length) = True := eq_true (by omega)
                replace pq := eq_true pq
                replace qq := eq_true qq
                obtain ⟨hat1, hat2⟩ := atoiO_some A24.out
                have hs : wr.cell? ⟨gb235, 6, none⟩ = some (.int .i64 0) := bt B5 rfl
                have hfs := blk_frozen B5.out 6
                go_wp2_with fail
                refine (atoi_calls (rdOf ByteArray.empty t227 6) _ hat1 (HD.out.on HBr.out)).mono ?_
                rintro e wq ⟨ev, rfl, hb⟩
                rw [hat2]
                have HO2 := az (Kd.R_below HOr.out hb)
                have C6 := az (blk_below B6.out hb)
                have C5 := az (blk_below B5.out hb)
                have CP := az (blk_below BP.out hb)
                have HB2 := az (below_step HBr.out hb)
                clear hb
                have hs2 : wq.cell? ⟨gb235, 6, none⟩ = some (.int .i64 0) := bt C5 rfl
                have hfs2 := blk_frozen C5.out 6
                go_wp2_with fail
                go_roundw
                case rel => exact ⟨6, by omega, by go_num, ⟨Kd.R_mono (Kd.R_far (p := ⟨gb235, 6, none⟩) (Kd.R_types HO2.out C5.out (by decide)) (fun _ hk => hk.2) _) (fun _ _ => trivial)⟩, ⟨blk_far C6.out NB226_235.out _⟩, ⟨blk_put C5.out 6 _ rfl⟩, ⟨blk_far CP.out (by have := hgl.out; show wl.heap.size ≠ gb235; omega) _⟩, ⟨below_set HB2.out GE235.out⟩⟩
                case measure => simp [intOf]
               ·have hp : wr.cell? ⟨wl.heap.size, 6, none⟩ = some (.pointer (some ⟨gb235, 7, none⟩)) := bt BP rfl
                have pq : 0 ≤ (7 : Int) := (by omega)
                have qq : (7 : Int) < (t227.length : Int) := of_decide_eq_true (by first | (with_reducible assumption) | assumption)
                obtain ⟨adq, eq, hxq⟩ := Kd.at_string (Kd.R_reads' HOr.out).2.2 7 pq qq
                obtain rfl : ad233 = adq := (by injection eq)
                (try simp only [show (7 : Int).toNat = 7 from rfl, Nat.reduceMul, Nat.reduceEqDiff, Go.Addr.add, ↓reduceIte] at hxq)
                have qi : (7 < t227.length) = True := eq_true (by omega)
                replace pq := eq_true pq
                replace qq := eq_true qq
                obtain ⟨hat1, hat2⟩ := atoiO_some A26.out
                have hs : wr.cell? ⟨gb235, 7, none⟩ = some (.int .i64 0) := bt B5 rfl
                have hfs := blk_frozen B5.out 7
                go_wp2_with fail
                refine (atoi_calls (rdOf ByteArray.empty t227 7) _ hat1 (HD.out.on HBr.out)).mono ?_
                rintro e wq ⟨ev, rfl, hb⟩
                rw [hat2]
                have HO2 := az (Kd.R_below HOr.out hb)
                have C6 := az (blk_below B6.out hb)
                have C5 := az (blk_below B5.out hb)
                have CP := az (blk_below BP.out hb)
                have HB2 := az (below_step HBr.out hb)
                clear hb
                have hs2 : wq.cell? ⟨gb235, 7, none⟩ = some (.int .i64 0) := bt C5 rfl
                have hfs2 := blk_frozen C5.out 7
                go_wp2_with fail
                go_roundw
                case rel => exact ⟨7, by omega, by go_num, ⟨Kd.R_mono (Kd.R_far (p := ⟨gb235, 7, none⟩) (Kd.R_types HO2.out C5.out (by decide)) (fun _ hk => hk.2) _) (fun _ _ => trivial)⟩, ⟨blk_far C6.out NB226_235.out _⟩, ⟨blk_put C5.out 7 _ rfl⟩, ⟨blk_far CP.out (by have := hgl.out; show wl.heap.size ≠ gb235; omega) _⟩, ⟨below_set HB2.out GE235.out⟩⟩
                case measure => simp [intOf]
               ·have BK226 := B6
                have BK235 : Aside0 (wr.heap[gb235]? = some (.cells #[.int .i64 t234, .int .i64 t237, .int .i64 t239, .int .i64 t241, .int .i64 t243, .int .i64 t245, .int .i64 t247, .int .i64 t249] 37 (0, 0))) := ⟨B5.out⟩
                have HB := HBr
                clear B6 B5 BP HBr HOr
                have hcA_0 : wr.cell? ⟨gb235, 0, none⟩ = some (.int .i64 t234) := bt BK235 rfl
                have hfA_0 := blk_frozen BK235.out 0
                have hcA_1 : wr.cell? ⟨gb235, 1, none⟩ = some (.int .i64 t237) := bt BK235 rfl
                have hfA_1 := blk_frozen BK235.out 1
                have hcA_2 : wr.cell? ⟨gb235, 2, none⟩ = some (.int .i64 t239) := bt BK235 rfl
                have hfA_2 := blk_frozen BK235.out 2
                have hcA_3 : wr.cell? ⟨gb235, 3, none⟩ = some (.int .i64 t241) := bt BK235 rfl
                have hfA_3 := blk_frozen BK235.out 3
                have hcA_4 : wr.cell? ⟨gb235, 4, none⟩ = some (.int .i64 t243) := bt BK235 rfl
                have hfA_4 := blk_frozen BK235.out 4
                have hcA_5 : wr.cell? ⟨gb235, 5, none⟩ = some (.int .i64 t245) := bt BK235 rfl
                have hfA_5 := blk_frozen BK235.out 5
                have hcA_6 : wr.cell? ⟨gb235, 6, none⟩ = some (.int .i64 t247) := bt BK235 rfl
                have hfA_6 := blk_frozen BK235.out 6
                have hcA_7 : wr.cell? ⟨gb235, 7, none⟩ = some (.int .i64 t249) := bt BK235 rfl
                have hfA_7 := blk_frozen BK235.out 7
                go_wp2_with (first | ((with_reducible refine gate_callee (f := 26) rfl ?_); refine goesL_ (some 52) rfl rfl Tryd.func26 (by kernel_rfl) rfl #[.agg #[.int .i64 t234, .int .i64 t237, .int .i64 t239, .int .i64 t241, .int .i64 t243, .int .i64 t245, .int .i64 t247, .int .i64 t249]] rfl (by (try simp only [List.map_toArray, List.map_cons, List.map_nil]); first | done | rfl | (simp only [List.length_drop, List.length_take]; rfl)) ?_; (with_reducible refine (impl_RecOk.calls kj2 t234 t237 t239 t241 t243 t245 t247 t249 true _ A27.out).mono ?_); rintro e w46 ⟨rfl, hb⟩; refine ⟨_, rfl, ?_⟩; replace BK226 := bb BK226 (fun h => by (with_reducible repeat (first | apply bn | apply bd | apply ba)); exact h) hb; replace BK235 := bb BK235 (fun h => by (with_reducible repeat (first | apply bn | apply bd | apply ba)); exact h) hb; replace HB := az (below_step (by repeat (first | (with_reducible first | exact HB.out | apply wa | apply wn | apply wd | refine ws ‹_› ?_) | exact HB.out)) hb); (try clear hb); have hcgb235_0 : w46.cell? ⟨gb235, 0, none⟩ = some (.int .i64 t234) := bt BK235 rfl; have hfgb235_0 := blk_frozen BK235.out 0; have hcgb235_1 : w46.cell? ⟨gb235, 1, none⟩ = some (.int .i64 t237) := bt BK235 rfl; have hfgb235_1 := blk_frozen BK235.out 1; have hcgb235_2 : w46.cell? ⟨gb235, 2, none⟩ = some (.int .i64 t239) := bt BK235 rfl; have hfgb235_2 := blk_frozen BK235.out 2; have hcgb235_3 : w46.cell? ⟨gb235, 3, none⟩ = some (.int .i64 t241) := bt BK235 rfl; have hfgb235_3 := blk_frozen BK235.out 3; have hcgb235_4 : w46.cell? ⟨gb235, 4, none⟩ = some (.int .i64 t243) := bt BK235 rfl; have hfgb235_4 := blk_frozen BK235.out 4; have hcgb235_5 : w46.cell? ⟨gb235, 5, none⟩ = some (.int .i64 t245) := bt BK235 rfl; have hfgb235_5 := blk_frozen BK235.out 5; have hcgb235_6 : w46.cell? ⟨gb235, 6, none⟩ = some (.int .i64 t247) := bt BK235 rfl; have hfgb235_6 := blk_frozen BK235.out 6; have hcgb235_7 : w46.cell? ⟨gb235, 7, none⟩ = some (.int .i64 t249) := bt BK235 rfl; have hfgb235_7 := blk_frozen BK235.out 7; have hcgb226_0 : w46.cell? ⟨gb226, 0, none⟩ = some (.int .i64 0) := bt BK226 rfl; have hfgb226_0 := blk_frozen BK226.out 0; have hcgb226_1 : w46.cell? ⟨gb226, 1, none⟩ = some (.int .i64 0) := bt BK226 rfl; have hfgb226_1 := blk_frozen BK226.out 1; have hcgb226_2 : w46.cell? ⟨gb226, 2, none⟩ = some (.int .i64 0) := bt BK226 rfl; have hfgb226_2 := blk_frozen BK226.out 2; have hcgb226_3 : w46.cell? ⟨gb226, 3, none⟩ = some (.int .i64 0) := bt BK226 rfl; have hfgb226_3 := blk_frozen BK226.out 3; have hcgb226_4 : w46.cell? ⟨gb226, 4, none⟩ = some (.int .i64 0) := bt BK226 rfl; have hfgb226_4 := blk_frozen BK226.out 4; have hcgb226_5 : w46.cell? ⟨gb226, 5, none⟩ = some (.int .i64 0) := bt BK226 rfl; have hfgb226_5 := blk_frozen BK226.out 5; have hcgb226_6 : w46.cell? ⟨gb226, 6, none⟩ = some (.int .i64 0) := bt BK226 rfl; have hfgb226_6 := blk_frozen BK226.out 6; have hcgb226_7 : w46.cell? ⟨gb226, 7, none⟩ = some (.int .i64 0) := bt BK226 rfl; have hfgb226_7 := blk_frozen BK226.out 7) | (go_at_call 22; (with_reducible refine (impl_RecText.calls kj2 t234 t237 t239 t241 t243 t245 t247 t249 t251 _ (HD.out.on (by repeat (first | (with_reducible first | exact HB.out | apply wa | apply wn | apply wd | refine ws ‹_› ?_) | exact HB.out))).tab A29.out).mono ?_); rintro e w48 ⟨rfl, hb⟩; replace BK226 := bb BK226 (fun h => by (with_reducible repeat (first | apply bn | apply bd | apply ba)); exact h) hb; replace BK235 := bb BK235 (fun h => by (with_reducible repeat (first | apply bn | apply bd | apply ba)); exact h) hb; replace HB := az (below_step (by repeat (first | (with_reducible first | exact HB.out | apply wa | apply wn | apply wd | refine ws ‹_› ?_) | exact HB.out)) hb); (try clear hb); have hcgb235_0 : w48.cell? ⟨gb235, 0, none⟩ = some (.int .i64 t234) := bt BK235 rfl; have hfgb235_0 := blk_frozen BK235.out 0; have hcgb235_1 : w48.cell? ⟨gb235, 1, none⟩ = some (.int .i64 t237) := bt BK235 rfl; have hfgb235_1 := blk_frozen BK235.out 1; have hcgb235_2 : w48.cell? ⟨gb235, 2, none⟩ = some (.int .i64 t239) := bt BK235 rfl; have hfgb235_2 := blk_frozen BK235.out 2; have hcgb235_3 : w48.cell? ⟨gb235, 3, none⟩ = some (.int .i64 t241) := bt BK235 rfl; have hfgb235_3 := blk_frozen BK235.out 3; have hcgb235_4 : w48.cell? ⟨gb235, 4, none⟩ = some (.int .i64 t243) := bt BK235 rfl; have hfgb235_4 := blk_frozen BK235.out 4; have hcgb235_5 : w48.cell? ⟨gb235, 5, none⟩ = some (.int .i64 t245) := bt BK235 rfl; have hfgb235_5 := blk_frozen BK235.out 5; have hcgb235_6 : w48.cell? ⟨gb235, 6, none⟩ = some (.int .i64 t247) := bt BK235 rfl; have hfgb235_6 := blk_frozen BK235.out 6; have hcgb235_7 : w48.cell? ⟨gb235, 7, none⟩ = some (.int .i64 t249) := bt BK235 rfl; have hfgb235_7 := blk_frozen BK235.out 7; have hcgb226_0 : w48.cell? ⟨gb226, 0, none⟩ = some (.int .i64 0) := bt BK226 rfl; have hfgb226_0 := blk_frozen BK226.out 0; have hcgb226_1 : w48.cell? ⟨gb226, 1, none⟩ = some (.int .i64 0) := bt BK226 rfl; have hfgb226_1 := blk_frozen BK226.out 1; have hcgb226_2 : w48.cell? ⟨gb226, 2, none⟩ = some (.int .i64 0) := bt BK226 rfl; have hfgb226_2 := blk_frozen BK226.out 2; have hcgb226_3 : w48.cell? ⟨gb226, 3, none⟩ = some (.int .i64 0) := bt BK226 rfl; have hfgb226_3 := blk_frozen BK226.out 3; have hcgb226_4 : w48.cell? ⟨gb226, 4, none⟩ = some (.int .i64 0) := bt BK226 rfl; have hfgb226_4 := blk_frozen BK226.out 4; have hcgb226_5 : w48.cell? ⟨gb226, 5, none⟩ = some (.int .i64 0) := bt BK226 rfl; have hfgb226_5 := blk_frozen BK226.out 5; have hcgb226_6 : w48.cell? ⟨gb226, 6, none⟩ = some (.int .i64 0) := bt BK226 rfl; have hfgb226_6 := blk_frozen BK226.out 6; have hcgb226_7 : w48.cell? ⟨gb226, 7, none⟩ = some (.int .i64 0) := bt BK226 rfl; have hfgb226_7 := blk_frozen BK226.out 7))
                refine bodyPost_ret (results_ct rfl _ _ gb226 37 #[.int .i64 t234, .int .i64 t237, .int .i64 t239, .int .i64 t241, .int .i64 t243, .int .i64 t245, .int .i64 t247, .int .i64 t249] (0, 0) _ rfl (by (with_reducible repeat (first | apply bn | apply bd | apply ba)); exact p8 BK226) Tryd.underlying37 rfl (by kernel_rfl)) rfl ?_
                exact ⟨by first | rfl | (simp [errW_none, errW_some] <;> rfl) | (simp [*, errW_none, errW_some] <;> rfl), by repeat (first | (with_reducible first | exact HB.out | apply wa | apply wn | apply wd | refine ws ‹_› ?_) | exact HB.out)⟩
             ·rw [if_neg c30] at H
              have c30b0 : (t251.toList == a0.toList) = false := beq_eq_false_iff_ne.mpr c30
              have c30b1 : (t251.toList != a0.toList) = true := bne_iff_ne.mpr c30
              simp only [Option.some.injEq, Prod.mk.injEq] at H
              obtain ⟨rfl, rfl, rfl, rfl, rfl, rfl, rfl, rfl, rfl⟩ := H
              try go_wp2
              replace HO_4 := az (Kd.R_drew HO_4.out)
              replace BK226 := az (blk_drew BK226.out)
              replace HB := az (wd HB.out)
              obtain ⟨Ao52, co52, eo52⟩ := Kd.R_slice HO_4.out
              (first | subst eo52 | (injection eo52 with f1_ f2_ f3_; have f4_ := f1_.symm; have f5_ := f3_.symm; clear f1_ f2_ f3_; subst f4_; subst f5_))
              have p233 : 0 ≤ (0 : Int) := (by omega)
              have q233 : 0 < (t227.length : Int) := of_decide_eq_true (by first | (with_reducible assumption) | assumption)
              obtain ⟨ad233, e233, hx233_0⟩ := Kd.at_string (Kd.R_reads' HO_4.out).2.2 0 p233 q233
              cases e233
              have qi233 : (0 < t227.length) = True := eq_true (by omega)
              (try rw [show ((0 : Int)).toNat = 0 from rfl] at hx233_0)
              (try rw [Addr.add_zero'] at hx233_0)
              replace p233 := eq_true p233
              replace q233 := eq_true q233
              refine start_ (n := 8) (S := fun w' => w'.cell? ad233 = some (.string (rdOf ByteArray.empty t227 0))) (ds := []) #[false, false, false, false, false, false, false, false] (by kernel_rfl) rfl rfl (hx233_0) (fun hHeld => ?_); refine with_tabW impl_RecRead.tab4 impl_RecRead.bits4 (fun HT_ HW_ => ?_)
              generalize wc.drew = w51 at HO_4 BK226 HB hx233_0 hHeld ⊢
              refine pure_ (i := 1) (N := some 20) (v := ?_) (a' := ?_) #[false, true, false, false, false, false, false, false] rfl rfl (any_of HT_.out (by kernel_rfl)) (fun _ _ _ h => h) (Or.inl ⟨by rfl, ?_⟩) ?_ ?_
              rotate_left
              ·intro w'
               go_simp
               with_reducible rfl
              rotate_left
              ·simp only [Act.put, List.setIfInBounds_toArray, List.set_cons_zero, List.set_cons_succ, i64_w, i32_w]
               rfl
              refine pure_ (i := 2) (N := some 21) (v := ?_) (a' := ?_) #[false, true, true, false, false, false, false, false] rfl rfl (any_of HT_.out (by kernel_rfl)) (fun _ _ _ h => h) (Or.inl ⟨by rfl, ?_⟩) ?_ ?_
              rotate_left
              ·intro w'
               go_simp
               with_reducible rfl
              rotate_left
              ·simp only [Act.put, List.setIfInBounds_toArray, List.set_cons_zero, List.set_cons_succ, i64_w, i32_w]
               rfl
              refine take_ (i := 3) (N := some 22) (v := ?_) (a' := ?_) #[false, true, true, true, false, false, false, false] rfl rfl (take_ofW HT_.out HW_.out (by kernel_rfl)) (fun _ _ _ h => h) (Or.inl ⟨by rfl, ?_⟩) hHeld ?_ ?_
              rotate_left
              ·intro w' s0
               go_simp
               with_reducible rfl
              rotate_left
              ·simp only [Act.put, List.setIfInBounds_toArray, List.set_cons_zero, List.set_cons_succ, i64_w, i32_w]
               rfl
              refine join_ (σ := Value × Nat) 1 #[true, true, true, true, true, true, true, false] (fun s_ => [(19, s_.1), (23, .int .i64 t234), (5, .pointer (some ⟨s_.2, 0, none⟩)), (24, .agg #[.int .i64 t234, .int .i64 0, .int .i64 0, .int .i64 0, .int .i64 0, .int .i64 0, .int .i64 0, .int .i64 0])]) (fun s_ w' => (w'.cell? ad233 = some (.string (rdOf ByteArray.empty t227 0))) ∧ (Kd.R Kd.string 9 w' w.heap.size (fun k_ => some k_ ≠ (.slice (some ad233) t227.length co52 : Value).ownBlock) s_.1 t230) ∧ (Kd.R Kd.string 9 w' w.heap.size (fun k_ => some k_ ≠ (s_.1 : Value).ownBlock) (.slice (some ad233) t227.length co52) t227) ∧ (w'.heap[gb226]? = some (.cells #[.int .i64 0, .int .i64 0, .int .i64 0, .int .i64 0, .int .i64 0, .int .i64 0, .int .i64 0, .int .i64 0] 37 (0, 0))) ∧ (w'.heap[s_.2]? = some (.cells #[.int .i64 0, .int .i64 0, .int .i64 0, .int .i64 0, .int .i64 0, .int .i64 0, .int .i64 0, .int .i64 0] 37 (0, 0))) ∧ (w.heap.size ≤ s_.2) ∧ (w.heap.size ≤ s_.2) ∧ (gb226 ≠ s_.2) ∧ (s_.2 ≠ gb226) ∧ (Below w.heap.size w w')) ?_ ?_
              rotate_left
              ·intro hCont
               refine two_ (i := 0) (j := 6) (Ni := some 19) (Nj := some 5) #[true, true, true, true, false, false, false, false] #[false, true, true, true, false, false, true, false] rfl rfl rfl rfl (two_of HT_.out (by kernel_rfl)) (by decide) (by decide) (fun K hK => ?_) (fun K hK => ?_)
               ·skip
                refine goes_ Tryd.func45 (by kernel_rfl) rfl #[] (by rfl) rfl rfl (by (try simp only [List.map_toArray, List.map_cons, List.map_nil]); first | done | rfl | (simp only [List.length_drop, List.length_take]; rfl)) ?_
                with_reducible refine (impl_recNames.calls  t230 _ A10.out).mono ?_
                rintro e w53 ⟨v231, rfl, ho0, hb⟩
                have HS0_ := (hb.cell (World.block_lt_of_cell? _ _ (hHeld))).trans (hHeld)
                refine ⟨_, rfl, ?_⟩
                have HO232 := az (Kd.R_lower (Kd.R_new' ho0 (Kd.R_lt (by (with_reducible repeat (first | apply Kd.R_alloc | apply Kd.R_drewN | apply Kd.R_drew)); exact HO_4.out))) (below_size (by repeat (first | (with_reducible first | exact HB.out | apply wa | apply wn | apply wd | refine ws ‹_› ?_) | exact HB.out))))
                replace HO_4 := az (Kd.R_elder' (by (with_reducible repeat (first | apply Kd.R_alloc | apply Kd.R_drewN | apply Kd.R_drew)); exact HO_4.out) (Kd.R_base ho0) hb)
                replace BK226 := bb BK226 (fun h => by (with_reducible repeat (first | apply bn | apply bd | apply ba)); exact h) hb
                replace HB := az (below_step (by repeat (first | (with_reducible first | exact HB.out | apply wa | apply wn | apply wd | refine ws ‹_› ?_) | exact HB.out)) hb)
                (try clear hb);(try clear hb2);(try clear hk);(try clear hi);(try clear ho0)
                refine hK.out _ _ (HS0_) (fun hHeld => ?_)
                clear hK K
                refine norm_ (a' := ?_) ?_ ?_
                rotate_left
                ·show Act.put _ (some 19) _ = _
                 simp only [Act.put, List.setIfInBounds_toArray, List.set_cons_zero, List.set_cons_succ, i64_w, i32_w]
                 rfl
                refine two_ (i := 4) (j := 6) (Ni := some 23) (Nj := some 5) #[true, true, true, true, true, false, false, false] #[true, true, true, true, false, false, true, false] rfl rfl rfl rfl (two_of HT_.out (by kernel_rfl)) (by decide) (by decide) (fun K hK => ?_) (fun K hK => ?_)
                ·skip
                 refine goes_ Tryd.func49 (by kernel_rfl) rfl #[v231, .string (rdOf ByteArray.empty t227 0)] (by rfl) rfl rfl (by (try simp only [List.map_toArray, List.map_cons, List.map_nil]); first | done | rfl | (simp only [List.length_drop, List.length_take]; rfl)) ?_
                 with_reducible refine (index_calls v231 t230 (rdOf ByteArray.empty t227 0) t234 _ (by (with_reducible repeat (first | apply Kd.R_alloc | apply Kd.R_drewN | apply Kd.R_drew)); exact HO232.out) A12.out).mono ?_
                 rintro e w' ⟨rfl, ⟨nd, rfl⟩⟩
                 refine ⟨_, rfl, ?_⟩
                 refine hK.out _ _ (hHeld) (fun hHeld => ?_)
                 clear hK K
                 refine norm_ (a' := ?_) ?_ ?_
                 rotate_left
                 ·show Act.put _ (some 23) _ = _
                  simp only [Act.put, List.setIfInBounds_toArray, List.set_cons_zero, List.set_cons_succ, i64_w, i32_w]
                  rfl
                 refine pure_ (i := 5) (N := some 24) (v := ?_) (a' := ?_) #[true, true, true, true, true, true, false, false] rfl rfl (any_of HT_.out (by kernel_rfl)) (fun _ _ _ h => h) (Or.inl ⟨by rfl, ?_⟩) ?_ ?_
                 rotate_left
                 ·intro w'
                  go_simp
                  with_reducible rfl
                 rotate_left
                 ·simp only [Act.put, List.setIfInBounds_toArray, List.set_cons_zero, List.set_cons_succ, i64_w, i32_w]
                  rfl
                 refine one_ (i := 6) (N := some 5) #[true, true, true, true, true, true, true, false] rfl rfl (one_of HT_.out (by kernel_rfl)) (by decide) (fun K hK => ?_)
                 refine box_step ?hg (N := 5) ?hd (cs := #[.int .i64 0, .int .i64 0, .int .i64 0, .int .i64 0, .int .i64 0, .int .i64 0, .int .i64 0, .int .i64 0]) (t := 37) ?hr ?_; (case hd => rfl); (case hg => rfl); (case hr => first | (go_simp; done) | (go_simp; rfl))
                 intro gb235 hg w54 hbox hb
                 have HS0_ := (hb.cell (World.block_lt_of_cell? _ _ (hHeld))).trans (hHeld)
                 replace HO_4 := az (Kd.R_below (by (with_reducible repeat (first | apply Kd.R_alloc | apply Kd.R_drewN | apply Kd.R_drew)); exact HO_4.out) hb)
                 replace HO232 := az (Kd.R_below (by (with_reducible repeat (first | apply Kd.R_alloc | apply Kd.R_drewN | apply Kd.R_drew)); exact HO232.out) hb)
                 have BK235 := az (hbox)
                 have GW235 := az ((by rw [hg]; exact (below_size (by repeat (first | (with_reducible first | exact HB.out | apply wa | apply wn | apply wd | refine ws ‹_› ?_) | exact HB.out))) : w.heap.size ≤ gb235))
                 have GE235 := GW235
                 replace HB := az (below_step (by repeat (first | (with_reducible first | exact HB.out | apply wa | apply wn | apply wd | refine ws ‹_› ?_) | exact HB.out)) hb)
                 obtain ⟨NB226_235, NB235_226⟩ := nb BK226 hg (fun h => by (with_reducible repeat (first | apply bn | apply bd | apply ba)); exact h)
                 replace BK226 := bb BK226 (fun h => by (with_reducible repeat (first | apply bn | apply bd | apply ba)); exact h) hb
                 clear hb hbox hg
                 refine hK.out _ _ (HS0_) (fun hHeld => ?_)
                 clear hK K
                 refine norm_ (a' := ?_) ?_ ?_
                 rotate_left
                 ·show Act.put _ (some 5) _ = _
                  simp only [Act.put, List.setIfInBounds_toArray, List.set_cons_zero, List.set_cons_succ, i64_w, i32_w]
                  rfl
                 exact norm_ (by simp only [putAll, Act.put, List.setIfInBounds_toArray, List.set_cons_zero, List.set_cons_succ]) (hCont (v231, gb235) _ ⟨hHeld, (by (with_reducible repeat (first | apply Kd.R_alloc | apply Kd.R_drewN | apply Kd.R_drew)); exact Kd.R_mono HO232.out (fun _ hk => hk.2)), (by (with_reducible repeat (first | apply Kd.R_alloc | apply Kd.R_drewN | apply Kd.R_drew)); exact Kd.R_mono HO_4.out (fun _ hk => hk.2)), (by (with_reducible repeat (first | apply bn | apply bd | apply ba)); exact BK226.out), (by (with_reducible repeat (first | apply bn | apply bd | apply ba)); exact BK235.out), GW235.out, GE235.out, NB226_235.out, NB235_226.out, (by repeat (first | (with_reducible first | exact HB.out | apply wa | apply wn | apply wd | refine ws ‹_› ?_) | exact HB.out))⟩)
                ·skip
                 refine box_step ?hg (N := 5) ?hd (cs := #[.int .i64 0, .int .i64 0, .int .i64 0, .int .i64 0, .int .i64 0, .int .i64 0, .int .i64 0, .int .i64 0]) (t := 37) ?hr ?_; (case hd => rfl); (case hg => rfl); (case hr => first | (go_simp; done) | (go_simp; rfl))
                 intro gb235 hg w54 hbox hb
                 have HS0_ := (hb.cell (World.block_lt_of_cell? _ _ (hHeld))).trans (hHeld)
                 replace HO_4 := az (Kd.R_below (by (with_reducible repeat (first | apply Kd.R_alloc | apply Kd.R_drewN | apply Kd.R_drew)); exact HO_4.out) hb)
                 replace HO232 := az (Kd.R_below (by (with_reducible repeat (first | apply Kd.R_alloc | apply Kd.R_drewN | apply Kd.R_drew)); exact HO232.out) hb)
                 have BK235 := az (hbox)
                 have GW235 := az ((by rw [hg]; exact (below_size (by repeat (first | (with_reducible first | exact HB.out | apply wa | apply wn | apply wd | refine ws ‹_› ?_) | exact HB.out))) : w.heap.size ≤ gb235))
                 have GE235 := GW235
                 replace HB := az (below_step (by repeat (first | (with_reducible first | exact HB.out | apply wa | apply wn | apply wd | refine ws ‹_› ?_) | exact HB.out)) hb)
                 obtain ⟨NB226_235, NB235_226⟩ := nb BK226 hg (fun h => by (with_reducible repeat (first | apply bn | apply bd | apply ba)); exact h)
                 replace BK226 := bb BK226 (fun h => by (with_reducible repeat (first | apply bn | apply bd | apply ba)); exact h) hb
                 clear hb hbox hg
                 refine hK.out _ _ (HS0_) (fun hHeld => ?_)
                 clear hK K
                 refine norm_ (a' := ?_) ?_ ?_
                 rotate_left
                 ·show Act.put _ (some 5) _ = _
                  simp only [Act.put, List.setIfInBounds_toArray, List.set_cons_zero, List.set_cons_succ, i64_w, i32_w]
                  rfl
                 refine one_ (i := 4) (N := some 23) #[true, true, true, true, true, false, true, false] rfl rfl (one_of HT_.out (by kernel_rfl)) (by decide) (fun K hK => ?_)
                 refine goes_ Tryd.func49 (by kernel_rfl) rfl #[v231, .string (rdOf ByteArray.empty t227 0)] (by rfl) rfl rfl (by (try simp only [List.map_toArray, List.map_cons, List.map_nil]); first | done | rfl | (simp only [List.length_drop, List.length_take]; rfl)) ?_
                 with_reducible refine (index_calls v231 t230 (rdOf ByteArray.empty t227 0) t234 _ (by (with_reducible repeat (first | apply Kd.R_alloc | apply Kd.R_drewN | apply Kd.R_drew)); exact HO232.out) A12.out).mono ?_
                 rintro e w' ⟨rfl, ⟨nd, rfl⟩⟩
                 refine ⟨_, rfl, ?_⟩
                 refine hK.out _ _ (hHeld) (fun hHeld => ?_)
                 clear hK K
                 refine norm_ (a' := ?_) ?_ ?_
                 rotate_left
                 ·show Act.put _ (some 23) _ = _
                  simp only [Act.put, List.setIfInBounds_toArray, List.set_cons_zero, List.set_cons_succ, i64_w, i32_w]
                  rfl
                 refine pure_ (i := 5) (N := some 24) (v := ?_) (a' := ?_) #[true, true, true, true, true, true, true, false] rfl rfl (any_of HT_.out (by kernel_rfl)) (fun _ _ _ h => h) (Or.inl ⟨by rfl, ?_⟩) ?_ ?_
                 rotate_left
                 ·intro w'
                  go_simp
                  with_reducible rfl
                 rotate_left
                 ·simp only [Act.put, List.setIfInBounds_toArray, List.set_cons_zero, List.set_cons_succ, i64_w, i32_w]
                  rfl
                 exact norm_ (by simp only [putAll, Act.put, List.setIfInBounds_toArray, List.set_cons_zero, List.set_cons_succ]) (hCont (v231, gb235) _ ⟨hHeld, (by (with_reducible repeat (first | apply Kd.R_alloc | apply Kd.R_drewN | apply Kd.R_drew)); exact Kd.R_mono HO232.out (fun _ hk => hk.2)), (by (with_reducible repeat (first | apply Kd.R_alloc | apply Kd.R_drewN | apply Kd.R_drew)); exact Kd.R_mono HO_4.out (fun _ hk => hk.2)), (by (with_reducible repeat (first | apply bn | apply bd | apply ba)); exact BK226.out), (by (with_reducible repeat (first | apply bn | apply bd | apply ba)); exact BK235.out), GW235.out, GE235.out, NB226_235.out, NB235_226.out, (by repeat (first | (with_reducible first | exact HB.out | apply wa | apply wn | apply wd | refine ws ‹_› ?_) | exact HB.out))⟩)
               ·skip
                refine box_step ?hg (N := 5) ?hd (cs := #[.int .i64 0, .int .i64 0, .int .i64 0, .int .i64 0, .int .i64 0, .int .i64 0, .int .i64 0, .int .i64 0]) (t := 37) ?hr ?_; (case hd => rfl); (case hg => rfl); (case hr => first | (go_simp; done) | (go_simp; rfl))
                intro gb235 hg w53 hbox hb
                have HS0_ := (hb.cell (World.block_lt_of_cell? _ _ (hHeld))).trans (hHeld)
                replace HO_4 := az (Kd.R_below (by (with_reducible repeat (first | apply Kd.R_alloc | apply Kd.R_drewN | apply Kd.R_drew)); exact HO_4.out) hb)
                have BK235 := az (hbox)
                have GW235 := az ((by rw [hg]; exact (below_size (by repeat (first | (with_reducible first | exact HB.out | apply wa | apply wn | apply wd | refine ws ‹_› ?_) | exact HB.out))) : w.heap.size ≤ gb235))
                have GE235 := GW235
                replace HB := az (below_step (by repeat (first | (with_reducible first | exact HB.out | apply wa | apply wn | apply wd | refine ws ‹_› ?_) | exact HB.out)) hb)
                obtain ⟨NB226_235, NB235_226⟩ := nb BK226 hg (fun h => by (with_reducible repeat (first | apply bn | apply bd | apply ba)); exact h)
                replace BK226 := bb BK226 (fun h => by (with_reducible repeat (first | apply bn | apply bd | apply ba)); exact h) hb
                clear hb hbox hg
                refine hK.out _ _ (HS0_) (fun hHeld => ?_)
                clear hK K
                refine norm_ (a' := ?_) ?_ ?_
                rotate_left
                ·show Act.put _ (some 5) _ = _
                 simp only [Act.put, List.setIfInBounds_toArray, List.set_cons_zero, List.set_cons_succ, i64_w, i32_w]
                 rfl
                refine one_ (i := 0) (N := some 19) #[true, true, true, true, false, false, true, false] rfl rfl (one_of HT_.out (by kernel_rfl)) (by decide) (fun K hK => ?_)
                refine goes_ Tryd.func45 (by kernel_rfl) rfl #[] (by rfl) rfl rfl (by (try simp only [List.map_toArray, List.map_cons, List.map_nil]); first | done | rfl | (simp only [List.length_drop, List.length_take]; rfl)) ?_
                with_reducible refine (impl_recNames.calls  t230 _ A10.out).mono ?_
                rintro e w54 ⟨v231, rfl, ho0, hb⟩
                have HS0_ := (hb.cell (World.block_lt_of_cell? _ _ (hHeld))).trans (hHeld)
                refine ⟨_, rfl, ?_⟩
                have HO232 := az (Kd.R_lower (Kd.R_new' ho0 (Kd.R_lt (by (with_reducible repeat (first | apply Kd.R_alloc | apply Kd.R_drewN | apply Kd.R_drew)); exact HO_4.out))) (below_size (by repeat (first | (with_reducible first | exact HB.out | apply wa | apply wn | apply wd | refine ws ‹_› ?_) | exact HB.out))))
                replace HO_4 := az (Kd.R_elder' (by (with_reducible repeat (first | apply Kd.R_alloc | apply Kd.R_drewN | apply Kd.R_drew)); exact HO_4.out) (Kd.R_base ho0) hb)
                replace BK226 := bb BK226 (fun h => by (with_reducible repeat (first | apply bn | apply bd | apply ba)); exact h) hb
                replace BK235 := bb BK235 (fun h => by (with_reducible repeat (first | apply bn | apply bd | apply ba)); exact h) hb
                replace HB := az (below_step (by repeat (first | (with_reducible first | exact HB.out | apply wa | apply wn | apply wd | refine ws ‹_› ?_) | exact HB.out)) hb)
                (try clear hb);(try clear hb2);(try clear hk);(try clear hi);(try clear ho0)
                refine hK.out _ _ (HS0_) (fun hHeld => ?_)
                clear hK K
                refine norm_ (a' := ?_) ?_ ?_
                rotate_left
                ·show Act.put _ (some 19) _ = _
                 simp only [Act.put, List.setIfInBounds_toArray, List.set_cons_zero, List.set_cons_succ, i64_w, i32_w]
                 rfl
                refine one_ (i := 4) (N := some 23) #[true, true, true, true, true, false, true, false] rfl rfl (one_of HT_.out (by kernel_rfl)) (by decide) (fun K hK => ?_)
                refine goes_ Tryd.func49 (by kernel_rfl) rfl #[v231, .string (rdOf ByteArray.empty t227 0)] (by rfl) rfl rfl (by (try simp only [List.map_toArray, List.map_cons, List.map_nil]); first | done | rfl | (simp only [List.length_drop, List.length_take]; rfl)) ?_
                with_reducible refine (index_calls v231 t230 (rdOf ByteArray.empty t227 0) t234 _ (by (with_reducible repeat (first | apply Kd.R_alloc | apply Kd.R_drewN | apply Kd.R_drew)); exact HO232.out) A12.out).mono ?_
                rintro e w' ⟨rfl, ⟨nd, rfl⟩⟩
                refine ⟨_, rfl, ?_⟩
                refine hK.out _ _ (hHeld) (fun hHeld => ?_)
                clear hK K
                refine norm_ (a' := ?_) ?_ ?_
                rotate_left
                ·show Act.put _ (some 23) _ = _
                 simp only [Act.put, List.setIfInBounds_toArray, List.set_cons_zero, List.set_cons_succ, i64_w, i32_w]
                 rfl
                refine pure_ (i := 5) (N := some 24) (v := ?_) (a' := ?_) #[true, true, true, true, true, true, true, false] rfl rfl (any_of HT_.out (by kernel_rfl)) (fun _ _ _ h => h) (Or.inl ⟨by rfl, ?_⟩) ?_ ?_
                rotate_left
                ·intro w'
                 go_simp
                 with_reducible rfl
                rotate_left
                ·simp only [Act.put, List.setIfInBounds_toArray, List.set_cons_zero, List.set_cons_succ, i64_w, i32_w]
                 rfl
                exact norm_ (by simp only [putAll, Act.put, List.setIfInBounds_toArray, List.set_cons_zero, List.set_cons_succ]) (hCont (v231, gb235) _ ⟨hHeld, (by (with_reducible repeat (first | apply Kd.R_alloc | apply Kd.R_drewN | apply Kd.R_drew)); exact Kd.R_mono HO232.out (fun _ hk => hk.2)), (by (with_reducible repeat (first | apply Kd.R_alloc | apply Kd.R_drewN | apply Kd.R_drew)); exact Kd.R_mono HO_4.out (fun _ hk => hk.2)), (by (with_reducible repeat (first | apply bn | apply bd | apply ba)); exact BK226.out), (by (with_reducible repeat (first | apply bn | apply bd | apply ba)); exact BK235.out), GW235.out, GE235.out, NB226_235.out, NB235_226.out, (by repeat (first | (with_reducible first | exact HB.out | apply wa | apply wn | apply wd | refine ws ‹_› ?_) | exact HB.out))⟩)
              rintro ⟨v231, gb235⟩ w55 ⟨hS_, h0_, h1_, h2_, h3_, h4_, h5_, h6_, h7_, h8_⟩
              have HO232 : Aside0 (Kd.R Kd.string 9 w55 w.heap.size (fun k_ => some k_ ≠ (.slice (some ad233) t227.length co52 : Value).ownBlock) v231 t230) := ⟨h0_⟩
              replace HO_4 : Aside0 (Kd.R Kd.string 9 w55 w.heap.size (fun k_ => some k_ ≠ (v231 : Value).ownBlock) (.slice (some ad233) t227.length co52) t227) := ⟨h1_⟩
              replace BK226 : Aside0 (w55.heap[gb226]? = some (.cells #[.int .i64 0, .int .i64 0, .int .i64 0, .int .i64 0, .int .i64 0, .int .i64 0, .int .i64 0, .int .i64 0] 37 (0, 0))) := ⟨h2_⟩
              have BK235 : Aside0 (w55.heap[gb235]? = some (.cells #[.int .i64 0, .int .i64 0, .int .i64 0, .int .i64 0, .int .i64 0, .int .i64 0, .int .i64 0, .int .i64 0] 37 (0, 0))) := ⟨h3_⟩
              have GW235 : Aside0 (w.heap.size ≤ gb235) := ⟨h4_⟩
              have GE235 : Aside0 (w.heap.size ≤ gb235) := ⟨h5_⟩
              have NB226_235 : Aside0 (gb226 ≠ gb235) := ⟨h6_⟩
              have NB235_226 : Aside0 (gb235 ≠ gb226) := ⟨h7_⟩
              replace HB : Aside0 (Below w.heap.size w w55) := ⟨h8_⟩
              clear h0_ h1_ h2_ h3_ h4_ h5_ h6_ h7_ h8_
              have hHeld : w55.cell? ad233 = some (.string (rdOf ByteArray.empty t227 0)) := hS_
              refine norm_ (a' := ?_) ?_ ?_
              rotate_left
              ·simp only [putAll, Act.put, List.setIfInBounds_toArray, List.set_cons_zero, List.set_cons_succ]
               rfl
              refine one_ (i := 7) (N := none) #[true, true, true, true, true, true, true, true] rfl rfl (one_of HT_.out (by kernel_rfl)) (by decide) (fun K hK => ?_)
              have hs56 : w55.cell? ⟨gb235, 0, none⟩ = some (.int .i64 0) := bt BK235 rfl
              have hfs56 := blk_frozen BK235.out 0
              have hns56_0 := NB226_235.out
              have hms56_0 := NB235_226.out
              have hs57 : w55.cell? ⟨gb235, 1, none⟩ = some (.int .i64 0) := bt BK235 rfl
              have hfs57 := blk_frozen BK235.out 1
              have hns57_0 := NB226_235.out
              have hms57_0 := NB235_226.out
              have hs58 : w55.cell? ⟨gb235, 2, none⟩ = some (.int .i64 0) := bt BK235 rfl
              have hfs58 := blk_frozen BK235.out 2
              have hns58_0 := NB226_235.out
              have hms58_0 := NB235_226.out
              have hs59 : w55.cell? ⟨gb235, 3, none⟩ = some (.int .i64 0) := bt BK235 rfl
              have hfs59 := blk_frozen BK235.out 3
              have hns59_0 := NB226_235.out
              have hms59_0 := NB235_226.out
              have hs60 : w55.cell? ⟨gb235, 4, none⟩ = some (.int .i64 0) := bt BK235 rfl
              have hfs60 := blk_frozen BK235.out 4
              have hns60_0 := NB226_235.out
              have hms60_0 := NB235_226.out
              have hs61 : w55.cell? ⟨gb235, 5, none⟩ = some (.int .i64 0) := bt BK235 rfl
              have hfs61 := blk_frozen BK235.out 5
              have hns61_0 := NB226_235.out
              have hms61_0 := NB235_226.out
              have hs62 : w55.cell? ⟨gb235, 6, none⟩ = some (.int .i64 0) := bt BK235 rfl
              have hfs62 := blk_frozen BK235.out 6
              have hns62_0 := NB226_235.out
              have hms62_0 := NB235_226.out
              have hs63 : w55.cell? ⟨gb235, 7, none⟩ = some (.int .i64 0) := bt BK235 rfl
              have hfs63 := blk_frozen BK235.out 7
              have hns63_0 := NB226_235.out
              have hms63_0 := NB235_226.out
              refine skip_ (w1 := ?_) (by rfl) rfl ?_ ?_
              rotate_left
              ·go_simp
               rfl
              refine hK.out _ _ (((cell_far (p := ⟨gb235, _, none⟩) (by first | exact Kd.own_blk (Kd.R_ne HO_4.out BK235.out (by decide)) | (rw [add_block]; exact Kd.own_blk (Kd.R_ne HO_4.out BK235.out (by decide))) | (show (Addr.add _ _).block ≠ _; rw [add_block]; exact Kd.own_blk (Kd.R_ne HO_4.out BK235.out (by decide))) | (dsimp only; exact Kd.own_blk (Kd.R_ne HO_4.out BK235.out (by decide)))) _).trans (((cell_far (p := ⟨gb235, _, none⟩) (by first | exact Kd.own_blk (Kd.R_ne HO_4.out BK235.out (by decide)) | (rw [add_block]; exact Kd.own_blk (Kd.R_ne HO_4.out BK235.out (by decide))) | (show (Addr.add _ _).block ≠ _; rw [add_block]; exact Kd.own_blk (Kd.R_ne HO_4.out BK235.out (by decide))) | (dsimp only; exact Kd.own_blk (Kd.R_ne HO_4.out BK235.out (by decide)))) _).trans (((cell_far (p := ⟨gb235, _, none⟩) (by first | exact Kd.own_blk (Kd.R_ne HO_4.out BK235.out (by decide)) | (rw [add_block]; exact Kd.own_blk (Kd.R_ne HO_4.out BK235.out (by decide))) | (show (Addr.add _ _).block ≠ _; rw [add_block]; exact Kd.own_blk (Kd.R_ne HO_4.out BK235.out (by decide))) | (dsimp only; exact Kd.own_blk (Kd.R_ne HO_4.out BK235.out (by decide)))) _).trans (((cell_far (p := ⟨gb235, _, none⟩) (by first | exact Kd.own_blk (Kd.R_ne HO_4.out BK235.out (by decide)) | (rw [add_block]; exact Kd.own_blk (Kd.R_ne HO_4.out BK235.out (by decide))) | (show (Addr.add _ _).block ≠ _; rw [add_block]; exact Kd.own_blk (Kd.R_ne HO_4.out BK235.out (by decide))) | (dsimp only; exact Kd.own_blk (Kd.R_ne HO_4.out BK235.out (by decide)))) _).trans (((cell_far (p := ⟨gb235, _, none⟩) (by first | exact Kd.own_blk (Kd.R_ne HO_4.out BK235.out (by decide)) | (rw [add_block]; exact Kd.own_blk (Kd.R_ne HO_4.out BK235.out (by decide))) | (show (Addr.add _ _).block ≠ _; rw [add_block]; exact Kd.own_blk (Kd.R_ne HO_4.out BK235.out (by decide))) | (dsimp only; exact Kd.own_blk (Kd.R_ne HO_4.out BK235.out (by decide)))) _).trans (((cell_far (p := ⟨gb235, _, none⟩) (by first | exact Kd.own_blk (Kd.R_ne HO_4.out BK235.out (by decide)) | (rw [add_block]; exact Kd.own_blk (Kd.R_ne HO_4.out BK235.out (by decide))) | (show (Addr.add _ _).block ≠ _; rw [add_block]; exact Kd.own_blk (Kd.R_ne HO_4.out BK235.out (by decide))) | (dsimp only; exact Kd.own_blk (Kd.R_ne HO_4.out BK235.out (by decide)))) _).trans (((cell_far (p := ⟨gb235, _, none⟩) (by first | exact Kd.own_blk (Kd.R_ne HO_4.out BK235.out (by decide)) | (rw [add_block]; exact Kd.own_blk (Kd.R_ne HO_4.out BK235.out (by decide))) | (show (Addr.add _ _).block ≠ _; rw [add_block]; exact Kd.own_blk (Kd.R_ne HO_4.out BK235.out (by decide))) | (dsimp only; exact Kd.own_blk (Kd.R_ne HO_4.out BK235.out (by decide)))) _).trans (((cell_far (p := ⟨gb235, _, none⟩) (by first | exact Kd.own_blk (Kd.R_ne HO_4.out BK235.out (by decide)) | (rw [add_block]; exact Kd.own_blk (Kd.R_ne HO_4.out BK235.out (by decide))) | (show (Addr.add _ _).block ≠ _; rw [add_block]; exact Kd.own_blk (Kd.R_ne HO_4.out BK235.out (by decide))) | (dsimp only; exact Kd.own_blk (Kd.R_ne HO_4.out BK235.out (by decide)))) _).trans (hHeld))))))))))))))))) (fun hHeld => ?_)
              clear hK K
              refine done_ (done_of HT_.out (by kernel_rfl)) ?_
              have n0_ := az (Kd.R_mono (ok' := fun _ => True) (Kd.R_far (p := ⟨gb235, 7, none⟩) (Kd.R_far (p := ⟨gb235, 6, none⟩) (Kd.R_far (p := ⟨gb235, 5, none⟩) (Kd.R_far (p := ⟨gb235, 4, none⟩) (Kd.R_far (p := ⟨gb235, 3, none⟩) (Kd.R_far (p := ⟨gb235, 2, none⟩) (Kd.R_far (p := ⟨gb235, 1, none⟩) (Kd.R_far (p := ⟨gb235, 0, none⟩) (Kd.R_types HO_4.out BK235.out (by decide)) (fun _ hk => hk.2) (.int .i64 t234)) (fun _ hk => hk.2) (.int .i64 0)) (fun _ hk => hk.2) (.int .i64 0)) (fun _ hk => hk.2) (.int .i64 0)) (fun _ hk => hk.2) (.int .i64 0)) (fun _ hk => hk.2) (.int .i64 0)) (fun _ hk => hk.2) (.int .i64 0)) (fun _ hk => hk.2) (.int .i64 0)) (fun _ _ => trivial))
              have n1_ := az (blk_far (p := ⟨gb235, 7, none⟩) (blk_far (p := ⟨gb235, 6, none⟩) (blk_far (p := ⟨gb235, 5, none⟩) (blk_far (p := ⟨gb235, 4, none⟩) (blk_far (p := ⟨gb235, 3, none⟩) (blk_far (p := ⟨gb235, 2, none⟩) (blk_far (p := ⟨gb235, 1, none⟩) (blk_far (p := ⟨gb235, 0, none⟩) (BK226.out) NB226_235.out (.int .i64 t234)) NB226_235.out (.int .i64 0)) NB226_235.out (.int .i64 0)) NB226_235.out (.int .i64 0)) NB226_235.out (.int .i64 0)) NB226_235.out (.int .i64 0)) NB226_235.out (.int .i64 0)) NB226_235.out (.int .i64 0))
              have n2_ := az (blk_put (cs := #[.int .i64 t234, .int .i64 0, .int .i64 0, .int .i64 0, .int .i64 0, .int .i64 0, .int .i64 0, .int .i64 0]) (cs' := #[.int .i64 t234, .int .i64 0, .int .i64 0, .int .i64 0, .int .i64 0, .int .i64 0, .int .i64 0, .int .i64 0]) (blk_put (cs := #[.int .i64 t234, .int .i64 0, .int .i64 0, .int .i64 0, .int .i64 0, .int .i64 0, .int .i64 0, .int .i64 0]) (cs' := #[.int .i64 t234, .int .i64 0, .int .i64 0, .int .i64 0, .int .i64 0, .int .i64 0, .int .i64 0, .int .i64 0]) (blk_put (cs := #[.int .i64 t234, .int .i64 0, .int .i64 0, .int .i64 0, .int .i64 0, .int .i64 0, .int .i64 0, .int .i64 0]) (cs' := #[.int .i64 t234, .int .i64 0, .int .i64 0, .int .i64 0, .int .i64 0, .int .i64 0, .int .i64 0, .int .i64 0]) (blk_put (cs := #[.int .i64 t234, .int .i64 0, .int .i64 0, .int .i64 0, .int .i64 0, .int .i64 0, .int .i64 0, .int .i64 0]) (cs' := #[.int .i64 t234, .int .i64 0, .int .i64 0, .int .i64 0, .int .i64 0, .int .i64 0, .int .i64 0, .int .i64 0]) (blk_put (cs := #[.int .i64 t234, .int .i64 0, .int .i64 0, .int .i64 0, .int .i64 0, .int .i64 0, .int .i64 0, .int .i64 0]) (cs' := #[.int .i64 t234, .int .i64 0, .int .i64 0, .int .i64 0, .int .i64 0, .int .i64 0, .int .i64 0, .int .i64 0]) (blk_put (cs := #[.int .i64 t234, .int .i64 0, .int .i64 0, .int .i64 0, .int .i64 0, .int .i64 0, .int .i64 0, .int .i64 0]) (cs' := #[.int .i64 t234, .int .i64 0, .int .i64 0, .int .i64 0, .int .i64 0, .int .i64 0, .int .i64 0, .int .i64 0]) (blk_put (cs := #[.int .i64 t234, .int .i64 0, .int .i64 0, .int .i64 0, .int .i64 0, .int .i64 0, .int .i64 0, .int .i64 0]) (cs' := #[.int .i64 t234, .int .i64 0, .int .i64 0, .int .i64 0, .int .i64 0, .int .i64 0, .int .i64 0, .int .i64 0]) (blk_put (cs := #[.int .i64 0, .int .i64 0, .int .i64 0, .int .i64 0, .int .i64 0, .int .i64 0, .int .i64 0, .int .i64 0]) (cs' := #[.int .i64 t234, .int .i64 0, .int .i64 0, .int .i64 0, .int .i64 0, .int .i64 0, .int .i64 0, .int .i64 0]) (BK235.out) 0 (.int .i64 t234) rfl) 1 (.int .i64 0) rfl) 2 (.int .i64 0) rfl) 3 (.int .i64 0) rfl) 4 (.int .i64 0) rfl) 5 (.int .i64 0) rfl) 6 (.int .i64 0) rfl) 7 (.int .i64 0) rfl)
              have n3_ := az (below_set (j := 7) (v := .int .i64 0) (below_set (j := 6) (v := .int .i64 0) (below_set (j := 5) (v := .int .i64 0) (below_set (j := 4) (v := .int .i64 0) (below_set (j := 3) (v := .int .i64 0) (below_set (j := 2) (v := .int .i64 0) (below_set (j := 1) (v := .int .i64 0) (below_set (j := 0) (v := .int .i64 t234) (HB.out) GE235.out) GE235.out) GE235.out) GE235.out) GE235.out) GE235.out) GE235.out) GE235.out)
              clear HO_4 HO232 BK226 BK235 HB hHeld
              refine hideE_ (fun w' => Aside0 (Kd.R Kd.string 9 w' w.heap.size (fun _ => True) (.slice (some ad233) t227.length co52) t227) ∧ Aside0 (w'.heap[gb226]? = some (.cells #[.int .i64 0, .int .i64 0, .int .i64 0, .int .i64 0, .int .i64 0, .int .i64 0, .int .i64 0, .int .i64 0] 37 (0, 0))) ∧ Aside0 (w'.heap[gb235]? = some (.cells #[.int .i64 t234, .int .i64 0, .int .i64 0, .int .i64 0, .int .i64 0, .int .i64 0, .int .i64 0, .int .i64 0] 37 (0, 0))) ∧ Aside0 (Below w.heap.size w w')) ⟨n0_, n1_, n2_, n3_⟩ (fun wl hl => ?_)
              clear n0_ n1_ n2_ n3_
              obtain ⟨HO_4, BK226, BK235, HB⟩ := hl
              have hgl := az (blk_lt BK235.out)
              go_wp2_with fail
              go_loopw [34] (fun s34 wr => ∃ k : Nat, k ≤ 7 ∧ s34 = .int .i64 k ∧ Aside0 (Kd.R Kd.string 9 wr w.heap.size (fun _ => True) (.slice (some ad233) t227.length co52) t227) ∧ Aside0 (wr.heap[gb226]? = some (.cells #[.int .i64 0, .int .i64 0, .int .i64 0, .int .i64 0, .int .i64 0, .int .i64 0, .int .i64 0, .int .i64 0] 37 (0, 0))) ∧ Aside0 (wr.heap[gb235]? = some (.cells (boxAt t234 t237 t239 t241 t243 t245 t247 t249 k) 37 (0, 0))) ∧ Aside0 (wr.heap[wl.heap.size]? = some (.cells #[.pointer (some ⟨gb235, 1, none⟩), .pointer (some ⟨gb235, 2, none⟩), .pointer (some ⟨gb235, 3, none⟩), .pointer (some ⟨gb235, 4, none⟩), .pointer (some ⟨gb235, 5, none⟩), .pointer (some ⟨gb235, 6, none⟩), .pointer (some ⟨gb235, 7, none⟩)] 71 (0, 0))) ∧ Aside0 (Below w.heap.size w wr)) (fun s34 _ => 7 - (intOf s34).toNat)
              case atStart => exact ⟨0, by omega, rfl, ⟨Kd.R_alloc HO_4.out _⟩, ⟨blk_alloc BK226.out _⟩, ⟨blk_alloc BK235.out _⟩, ⟨blk_new _ _⟩, ⟨wa HB.out⟩⟩
              case round =>
               clear HO_4 BK226 BK235 HB
               obtain ⟨k, hk, rfl, HOr, B6, B5, BP, HBr⟩ := hrel
               have hk7 : k = 0 ∨ k = 1 ∨ k = 2 ∨ k = 3 ∨ k = 4 ∨ k = 5 ∨ k = 6 ∨ k = 7 := by omega
               clear hk
               rcases hk7 with rfl | rfl | rfl | rfl | rfl | rfl | rfl | rfl
               ·have hp : wr.cell? ⟨wl.heap.size, 0, none⟩ = some (.pointer (some ⟨gb235, 1, none⟩)) := bt BP rfl
                have pq : 0 ≤ (1 : Int) := (by omega)
                have qq : (1 : Int) < (t227.length : Int) := of_decide_eq_true (by first | (with_reducible assumption) | assumption)
                obtain ⟨adq, eq, hxq⟩ := Kd.at_string (Kd.R_reads' HOr.out).2.2 1 pq qq
                obtain rfl : ad233 = adq := (by injection eq)
                (try simp only [show (1 : Int).toNat = 1 from rfl, Nat.reduceMul, Nat.reduceEqDiff, Go.Addr.add, ↓reduceIte] at hxq)
                have qi : (1 < t227.length) = True := eq_true (by omega)
                replace pq := eq_true pq
                replace qq := eq_true qq
                obtain ⟨hat1, hat2⟩ := atoiO_some A14.out
                have hs : wr.cell? ⟨gb235, 1, none⟩ = some (.int .i64 0) := bt B5 rfl
                have hfs := blk_frozen B5.out 1
                go_wp2_with fail
                refine (atoi_calls (rdOf ByteArray.empty t227 1) _ hat1 (HD.out.on HBr.out)).mono ?_
                rintro e wq ⟨ev, rfl, hb⟩
                rw [hat2]
                have HO2 := az (Kd.R_below HOr.out hb)
                have C6 := az (blk_below B6.out hb)
                have C5 := az (blk_below B5.out hb)
                have CP := az (blk_below BP.out hb)
                have HB2 := az (below_step HBr.out hb)
                clear hb
                have hs2 : wq.cell? ⟨gb235, 1, none⟩ = some (.int .i64 0) := bt C5 rfl
                have hfs2 := blk_frozen C5.out 1
                go_wp2_with fail
                go_roundw
                case rel => exact ⟨1, by omega, by go_num, ⟨Kd.R_mono (Kd.R_far (p := ⟨gb235, 1, none⟩) (Kd.R_types HO2.out C5.out (by decide)) (fun _ hk => hk.2) _) (fun _ _ => trivial)⟩, ⟨blk_far C6.out NB226_235.out _⟩, ⟨blk_put C5.out 1 _ rfl⟩, ⟨blk_far CP.out (by have := hgl.out; show wl.heap.size ≠ gb235; omega) _⟩, ⟨below_set HB2.out GE235.out⟩⟩
                case measure => simp [intOf]
               ·have hp : wr.cell? ⟨wl.heap.size, 1, none⟩ = some (.pointer (some ⟨gb235, 2, none⟩)) := bt BP rfl
                have pq : 0 ≤ (2 : Int) := (by omega)
                have qq : (2 : Int) < (t227.length : Int) := of_decide_eq_true (by first | (with_reducible assumption) | assumption)
                obtain ⟨adq, eq, hxq⟩ := Kd.at_string (Kd.R_reads' HOr.out).2.2 2 pq qq
                obtain rfl : ad233 = adq := (by injection eq)
                (try simp only [show (2 : Int).toNat = 2 from rfl, Nat.reduceMul, Nat.reduceEqDiff, Go.Addr.add, ↓reduceIte] at hxq)
                have qi : (2 < t227.length) = True := eq_true (by omega)
                replace pq := eq_true pq
                replace qq := eq_true qq
                obtain ⟨hat1, hat2⟩ := atoiO_some A16.out
                have hs : wr.cell? ⟨gb235, 2, none⟩ = some (.int .i64 0) := bt B5 rfl
                have hfs := blk_frozen B5.out 2
                go_wp2_with fail
                refine (atoi_calls (rdOf ByteArray.empty t227 2) _ hat1 (HD.out.on HBr.out)).mono ?_
                rintro e wq ⟨ev, rfl, hb⟩
                rw [hat2]
                have HO2 := az (Kd.R_below HOr.out hb)
                have C6 := az (blk_below B6.out hb)
                have C5 := az (blk_below B5.out hb)
                have CP := az (blk_below BP.out hb)
                have HB2 := az (below_step HBr.out hb)
                clear hb
                have hs2 : wq.cell? ⟨gb235, 2, none⟩ = some (.int .i64 0) := bt C5 rfl
                have hfs2 := blk_frozen C5.out 2
                go_wp2_with fail
                go_roundw
                case rel => exact ⟨2, by omega, by go_num, ⟨Kd.R_mono (Kd.R_far (p := ⟨gb235, 2, none⟩) (Kd.R_types HO2.out C5.out (by decide)) (fun _ hk => hk.2) _) (fun _ _ => trivial)⟩, ⟨blk_far C6.out NB226_235.out _⟩, ⟨blk_put C5.out 2 _ rfl⟩, ⟨blk_far CP.out (by have := hgl.out; show wl.heap.size ≠ gb235; omega) _⟩, ⟨below_set HB2.out GE235.out⟩⟩
                case measure => simp [intOf]
               ·have hp : wr.cell? ⟨wl.heap.size, 2, none⟩ = some (.pointer (some ⟨gb235, 3, none⟩)) := bt BP rfl
                have pq : 0 ≤ (3 : Int) := (by omega)
                have qq : (3 : Int) < (t227.length : Int) := of_decide_eq_true (by first | (with_reducible assumption) | assumption)
                obtain ⟨adq, eq, hxq⟩ := Kd.at_string (Kd.R_reads' HOr.out).2.2 3 pq qq
                obtain rfl : ad233 = adq := (by injection eq)
                (try simp only [show (3 : Int).toNat = 3 from rfl, Nat.reduceMul, Nat.reduceEqDiff, Go.Addr.add, ↓reduceIte] at hxq)
                have qi : (3 < t227.length) = True := eq_true (by omega)
                replace pq := eq_true pq
                replace qq := eq_true qq
                obtain ⟨hat1, hat2⟩ := atoiO_some A18.out
                have hs : wr.cell? ⟨gb235, 3, none⟩ = some (.int .i64 0) := bt B5 rfl
                have hfs := blk_frozen B5.out 3
                go_wp2_with fail
                refine (atoi_calls (rdOf ByteArray.empty t227 3) _ hat1 (HD.out.on HBr.out)).mono ?_
                rintro e wq ⟨ev, rfl, hb⟩
                rw [hat2]
                have HO2 := az (Kd.R_below HOr.out hb)
                have C6 := az (blk_below B6.out hb)
                have C5 := az (blk_below B5.out hb)
                have CP := az (blk_below BP.out hb)
                have HB2 := az (below_step HBr.out hb)
                clear hb
                have hs2 : wq.cell? ⟨gb235, 3, none⟩ = some (.int .i64 0) := bt C5 rfl
                have hfs2 := blk_frozen C5.out 3
                go_wp2_with fail
                go_roundw
                case rel => exact ⟨3, by omega, by go_num, ⟨Kd.R_mono (Kd.R_far (p := ⟨gb235, 3, none⟩) (Kd.R_types HO2.out C5.out (by decide)) (fun _ hk => hk.2) _) (fun _ _ => trivial)⟩, ⟨blk_far C6.out NB226_235.out _⟩, ⟨blk_put C5.out 3 _ rfl⟩, ⟨blk_far CP.out (by have := hgl.out; show wl.heap.size ≠ gb235; omega) _⟩, ⟨below_set HB2.out GE235.out⟩⟩
                case measure => simp [intOf]
               ·have hp : wr.cell? ⟨wl.heap.size, 3, none⟩ = some (.pointer (some ⟨gb235, 4, none⟩)) := bt BP rfl
                have pq : 0 ≤ (4 : Int) := (by omega)
                have qq : (4 : Int) < (t227.length : Int) := of_decide_eq_true (by first | (with_reducible assumption) | assumption)
                obtain ⟨adq, eq, hxq⟩ := Kd.at_string (Kd.R_reads' HOr.out).2.2 4 pq qq
                obtain rfl : ad233 = adq := (by injection eq)
                (try simp only [show (4 : Int).toNat = 4 from rfl, Nat.reduceMul, Nat.reduceEqDiff, Go.Addr.add, ↓reduceIte] at hxq)
                have qi : (4 < t227.length) = True := eq_true (by omega)
                replace pq := eq_true pq
                replace qq := eq_true qq
                obtain ⟨hat1, hat2⟩ := atoiO_some A20.out
                have hs : wr.cell? ⟨gb235, 4, none⟩ = some (.int .i64 0) := bt B5 rfl
                have hfs := blk_frozen B5.out 4
                go_wp2_with fail
                refine (atoi_calls (rdOf ByteArray.empty t227 4) _ hat1 (HD.out.on HBr.out)).mono ?_
                rintro e wq ⟨ev, rfl, hb⟩
                rw [hat2]
                have HO2 := az (Kd.R_below HOr.out hb)
                have C6 := az (blk_below B6.out hb)
                have C5 := az (blk_below B5.out hb)
                have CP := az (blk_below BP.out hb)
                have HB2 := az (below_step HBr.out hb)
                clear hb
                have hs2 : wq.cell? ⟨gb235, 4, none⟩ = some (.int .i64 0) := bt C5 rfl
                have hfs2 := blk_frozen C5.out 4
                go_wp2_with fail
                go_roundw
                case rel => exact ⟨4, by omega, by go_num, ⟨Kd.R_mono (Kd.R_far (p := ⟨gb235, 4, none⟩) (Kd.R_types HO2.out C5.out (by decide)) (fun _ hk => hk.2) _) (fun _ _ => trivial)⟩, ⟨blk_far C6.out NB226_235.out _⟩, ⟨blk_put C5.out 4 _ rfl⟩, ⟨blk_far CP.out (by have := hgl.out; show wl.heap.size ≠ gb235; omega) _⟩, ⟨below_set HB2.out GE235.out⟩⟩
                case measure => simp [intOf]
               ·have hp : wr.cell? ⟨wl.heap.size, 4, none⟩ = some (.pointer (some ⟨gb235, 5, none⟩)) := bt BP rfl
                have pq : 0 ≤ (5 : Int) := (by omega)
                have qq : (5 : Int) < (t227.length : Int) := of_decide_eq_true (by first | (with_reducible assumption) | assumption)
                obtain ⟨adq, eq, hxq⟩ := Kd.at_string (Kd.R_reads' HOr.out).2.2 5 pq qq
                obtain rfl : ad233 = adq := (by injection eq)
                (try simp only [show (5 : Int).toNat = 5 from rfl, Nat.reduceMul, Nat.reduceEqDiff, Go.Addr.add, ↓reduceIte] at hxq)
                have qi : (5 < t227.length) = True := eq_true (by omega)
                replace pq := eq_true pq
                replace qq := eq_true qq
                obtain ⟨hat1, hat2⟩ := atoiO_some A22.out
                have hs : wr.cell? ⟨gb235, 5, none⟩ = some (.int .i64 0) := bt B5 rfl
                have hfs := blk_frozen B5.out 5
                go_wp2_with fail
                refine (atoi_calls (rdOf ByteArray.empty t227 5) _ hat1 (HD.out.on HBr.out)).mono ?_
                rintro e wq ⟨ev, rfl, hb⟩
                rw [hat2]
                have HO2 := az (Kd.R_below HOr.out hb)
                have C6 := az (blk_below B6.out hb)
                have C5 := az (blk_below B5.out hb)
                have CP := az (blk_below BP.out hb)
                have HB2 := az (below_step HBr.out hb)
                clear hb
                have hs2 : wq.cell? ⟨gb235, 5, none⟩ = some (.int .i64 0) := bt C5 rfl
                have hfs2 := blk_frozen C5.out 5
                go_wp2_with fail
                go_roundw
                case rel => exact ⟨5, by omega, by go_num, ⟨Kd.R_mono (Kd.R_far (p := ⟨gb235, 5, none⟩) (Kd.R_types HO2.out C5.out (by decide)) (fun _ hk => hk.2) _) (fun _ _ => trivial)⟩, ⟨blk_far C6.out NB226_235.out _⟩, ⟨blk_put C5.out 5 _ rfl⟩, ⟨blk_far CP.out (by have := hgl.out; show wl.heap.size ≠ gb235; omega) _⟩, ⟨below_set HB2.out GE235.out⟩⟩
                case measure => simp [intOf]
               ·have hp : wr.cell? ⟨wl.heap.size, 5, none⟩ = some (.pointer (some ⟨gb235, 6, none⟩)) := bt BP rfl
                have pq : 0 ≤ (6 : Int) := (by omega)
                have qq : (6 : Int) < (t227.length : Int) := of_decide_eq_true (by first | (with_reducible assumption) | assumption)
                obtain ⟨adq, eq, hxq⟩ := Kd.at_string (Kd.R_reads' HOr.out).2.2 6 pq qq
                obtain rfl : ad233 = adq := (by injection eq)
                (try simp only [show (6 : Int).toNat = 6 from rfl, Nat.reduceMul, Nat.reduceEqDiff, Go.Addr.add, ↓reduceIte] at hxq)
                have qi : (6 < t227.length) = True := eq_true (by omega)
                replace pq := eq_true pq
                replace qq := eq_true qq
                obtain ⟨hat1, hat2⟩ := atoiO_some A24.out
                have hs : wr.cell? ⟨gb235, 6, none⟩ = some (.int .i64 0) := bt B5 rfl
                have hfs := blk_frozen B5.out 6
                go_wp2_with fail
                refine (atoi_calls (rdOf ByteArray.empty t227 6) _ hat1 (HD.out.on HBr.out)).mono ?_
                rintro e wq ⟨ev, rfl, hb⟩
                rw [hat2]
                have HO2 := az (Kd.R_below HOr.out hb)
                have C6 := az (blk_below B6.out hb)
                have C5 := az (blk_below B5.out hb)
                have CP := az (blk_below BP.out hb)
                have HB2 := az (below_step HBr.out hb)
                clear hb
                have hs2 : wq.cell? ⟨gb235, 6, none⟩ = some (.int .i64 0) := bt C5 rfl
                have hfs2 := blk_frozen C5.out 6
                go_wp2_with fail
                go_roundw
                case rel => exact ⟨6, by omega, by go_num, ⟨Kd.R_mono (Kd.R_far (p := ⟨gb235, 6, none⟩) (Kd.R_types HO2.out C5.out (by decide)) (fun _ hk => hk.2) _) (fun _ _ => trivial)⟩, ⟨blk_far C6.out NB226_235.out _⟩, ⟨blk_put C5.out 6 _ rfl⟩, ⟨blk_far CP.out (by have := hgl.out; show wl.heap.size ≠ gb235; omega) _⟩, ⟨below_set HB2.out GE235.out⟩⟩
                case measure => simp [intOf]
               ·have hp : wr.cell? ⟨wl.heap.size, 6, none⟩ = some (.pointer (some ⟨gb235, 7, none⟩)) := bt BP rfl
                have pq : 0 ≤ (7 : Int) := (by omega)
                have qq : (7 : Int) < (t227.length : Int) := of_decide_eq_true (by first | (with_reducible assumption) | assumption)
                obtain ⟨adq, eq, hxq⟩ := Kd.at_string (Kd.R_reads' HOr.out).2.2 7 pq qq
                obtain rfl : ad233 = adq := (by injection eq)
                (try simp only [show (7 : Int).toNat = 7 from rfl, Nat.reduceMul, Nat.reduceEqDiff, Go.Addr.add, ↓reduceIte] at hxq)
                have qi : (7 < t227.length) = True := eq_true (by omega)
                replace pq := eq_true pq
                replace qq := eq_true qq
                obtain ⟨hat1, hat2⟩ := atoiO_some A26.out
                have hs : wr.cell? ⟨gb235, 7, none⟩ = some (.int .i64 0) := bt B5 rfl
                have hfs := blk_frozen B5.out 7
                go_wp2_with fail
                refine (atoi_calls (rdOf ByteArray.empty t227 7) _ hat1 (HD.out.on HBr.out)).mono ?_
                rintro e wq ⟨ev, rfl, hb⟩
                rw [hat2]
                have HO2 := az (Kd.R_below HOr.out hb)
                have C6 := az (blk_below B6.out hb)
                have C5 := az (blk_below B5.out hb)
                have CP := az (blk_below BP.out hb)
                have HB2 := az (below_step HBr.out hb)
                clear hb
                have hs2 : wq.cell? ⟨gb235, 7, none⟩ = some (.int .i64 0) := bt C5 rfl
                have hfs2 := blk_frozen C5.out 7
                go_wp2_with fail
                go_roundw
                case rel => exact ⟨7, by omega, by go_num, ⟨Kd.R_mono (Kd.R_far (p := ⟨gb235, 7, none⟩) (Kd.R_types HO2.out C5.out (by decide)) (fun _ hk => hk.2) _) (fun _ _ => trivial)⟩, ⟨blk_far C6.out NB226_235.out _⟩, ⟨blk_put C5.out 7 _ rfl⟩, ⟨blk_far CP.out (by have := hgl.out; show wl.heap.size ≠ gb235; omega) _⟩, ⟨below_set HB2.out GE235.out⟩⟩
                case measure => simp [intOf]
               ·have BK226 := B6
                have BK235 : Aside0 (wr.heap[gb235]? = some (.cells #[.int .i64 t234, .int .i64 t237, .int .i64 t239, .int .i64 t241, .int .i64 t243, .int .i64 t245, .int .i64 t247, .int .i64 t249] 37 (0, 0))) := ⟨B5.out⟩
                have HB := HBr
                clear B6 B5 BP HBr HOr
                have hcA_0 : wr.cell? ⟨gb235, 0, none⟩ = some (.int .i64 t234) := bt BK235 rfl
                have hfA_0 := blk_frozen BK235.out 0
                have hcA_1 : wr.cell? ⟨gb235, 1, none⟩ = some (.int .i64 t237) := bt BK235 rfl
                have hfA_1 := blk_frozen BK235.out 1
                have hcA_2 : wr.cell? ⟨gb235, 2, none⟩ = some (.int .i64 t239) := bt BK235 rfl
                have hfA_2 := blk_frozen BK235.out 2
                have hcA_3 : wr.cell? ⟨gb235, 3, none⟩ = some (.int .i64 t241) := bt BK235 rfl
                have hfA_3 := blk_frozen BK235.out 3
                have hcA_4 : wr.cell? ⟨gb235, 4, none⟩ = some (.int .i64 t243) := bt BK235 rfl
                have hfA_4 := blk_frozen BK235.out 4
                have hcA_5 : wr.cell? ⟨gb235, 5, none⟩ = some (.int .i64 t245) := bt BK235 rfl
                have hfA_5 := blk_frozen BK235.out 5
                have hcA_6 : wr.cell? ⟨gb235, 6, none⟩ = some (.int .i64 t247) := bt BK235 rfl
                have hfA_6 := blk_frozen BK235.out 6
                have hcA_7 : wr.cell? ⟨gb235, 7, none⟩ = some (.int .i64 t249) := bt BK235 rfl
                have hfA_7 := blk_frozen BK235.out 7
                go_wp2_with (first | ((with_reducible refine gate_callee (f := 26) rfl ?_); refine goesL_ (some 52) rfl rfl Tryd.func26 (by kernel_rfl) rfl #[.agg #[.int .i64 t234, .int .i64 t237, .int .i64 t239, .int .i64 t241, .int .i64 t243, .int .i64 t245, .int .i64 t247, .int .i64 t249]] rfl (by (try simp only [List.map_toArray, List.map_cons, List.map_nil]); first | done | rfl | (simp only [List.length_drop, List.length_take]; rfl)) ?_; (with_reducible refine (impl_RecOk.calls kj2 t234 t237 t239 t241 t243 t245 t247 t249 true _ A27.out).mono ?_); rintro e w66 ⟨rfl, hb⟩; refine ⟨_, rfl, ?_⟩; replace BK226 := bb BK226 (fun h => by (with_reducible repeat (first | apply bn | apply bd | apply ba)); exact h) hb; replace BK235 := bb BK235 (fun h => by (with_reducible repeat (first | apply bn | apply bd | apply ba)); exact h) hb; replace HB := az (below_step (by repeat (first | (with_reducible first | exact HB.out | apply wa | apply wn | apply wd | refine ws ‹_› ?_) | exact HB.out)) hb); (try clear hb); have hcgb235_0 : w66.cell? ⟨gb235, 0, none⟩ = some (.int .i64 t234) := bt BK235 rfl; have hfgb235_0 := blk_frozen BK235.out 0; have hcgb235_1 : w66.cell? ⟨gb235, 1, none⟩ = some (.int .i64 t237) := bt BK235 rfl; have hfgb235_1 := blk_frozen BK235.out 1; have hcgb235_2 : w66.cell? ⟨gb235, 2, none⟩ = some (.int .i64 t239) := bt BK235 rfl; have hfgb235_2 := blk_frozen BK235.out 2; have hcgb235_3 : w66.cell? ⟨gb235, 3, none⟩ = some (.int .i64 t241) := bt BK235 rfl; have hfgb235_3 := blk_frozen BK235.out 3; have hcgb235_4 : w66.cell? ⟨gb235, 4, none⟩ = some (.int .i64 t243) := bt BK235 rfl; have hfgb235_4 := blk_frozen BK235.out 4; have hcgb235_5 : w66.cell? ⟨gb235, 5, none⟩ = some (.int .i64 t245) := bt BK235 rfl; have hfgb235_5 := blk_frozen BK235.out 5; have hcgb235_6 : w66.cell? ⟨gb235, 6, none⟩ = some (.int .i64 t247) := bt BK235 rfl; have hfgb235_6 := blk_frozen BK235.out 6; have hcgb235_7 : w66.cell? ⟨gb235, 7, none⟩ = some (.int .i64 t249) := bt BK235 rfl; have hfgb235_7 := blk_frozen BK235.out 7; have hcgb226_0 : w66.cell? ⟨gb226, 0, none⟩ = some (.int .i64 0) := bt BK226 rfl; have hfgb226_0 := blk_frozen BK226.out 0; have hcgb226_1 : w66.cell? ⟨gb226, 1, none⟩ = some (.int .i64 0) := bt BK226 rfl; have hfgb226_1 := blk_frozen BK226.out 1; have hcgb226_2 : w66.cell? ⟨gb226, 2, none⟩ = some (.int .i64 0) := bt BK226 rfl; have hfgb226_2 := blk_frozen BK226.out 2; have hcgb226_3 : w66.cell? ⟨gb226, 3, none⟩ = some (.int .i64 0) := bt BK226 rfl; have hfgb226_3 := blk_frozen BK226.out 3; have hcgb226_4 : w66.cell? ⟨gb226, 4, none⟩ = some (.int .i64 0) := bt BK226 rfl; have hfgb226_4 := blk_frozen BK226.out 4; have hcgb226_5 : w66.cell? ⟨gb226, 5, none⟩ = some (.int .i64 0) := bt BK226 rfl; have hfgb226_5 := blk_frozen BK226.out 5; have hcgb226_6 : w66.cell? ⟨gb226, 6, none⟩ = some (.int .i64 0) := bt BK226 rfl; have hfgb226_6 := blk_frozen BK226.out 6; have hcgb226_7 : w66.cell? ⟨gb226, 7, none⟩ = some (.int .i64 0) := bt BK226 rfl; have hfgb226_7 := blk_frozen BK226.out 7) | (go_at_call 22; (with_reducible refine (impl_RecText.calls kj2 t234 t237 t239 t241 t243 t245 t247 t249 t251 _ (HD.out.on (by repeat (first | (with_reducible first | exact HB.out | apply wa | apply wn | apply wd | refine ws ‹_› ?_) | exact HB.out))).tab A29.out).mono ?_); rintro e w68 ⟨rfl, hb⟩; replace BK226 := bb BK226 (fun h => by (with_reducible repeat (first | apply bn | apply bd | apply ba)); exact h) hb; replace BK235 := bb BK235 (fun h => by (with_reducible repeat (first | apply bn | apply bd | apply ba)); exact h) hb; replace HB := az (below_step (by repeat (first | (with_reducible first | exact HB.out | apply wa | apply wn | apply wd | refine ws ‹_› ?_) | exact HB.out)) hb); (try clear hb); have hcgb235_0 : w68.cell? ⟨gb235, 0, none⟩ = some (.int .i64 t234) := bt BK235 rfl; have hfgb235_0 := blk_frozen BK235.out 0; have hcgb235_1 : w68.cell? ⟨gb235, 1, none⟩ = some (.int .i64 t237) := bt BK235 rfl; have hfgb235_1 := blk_frozen BK235.out 1; have hcgb235_2 : w68.cell? ⟨gb235, 2, none⟩ = some (.int .i64 t239) := bt BK235 rfl; have hfgb235_2 := blk_frozen BK235.out 2; have hcgb235_3 : w68.cell? ⟨gb235, 3, none⟩ = some (.int .i64 t241) := bt BK235 rfl; have hfgb235_3 := blk_frozen BK235.out 3; have hcgb235_4 : w68.cell? ⟨gb235, 4, none⟩ = some (.int .i64 t243) := bt BK235 rfl; have hfgb235_4 := blk_frozen BK235.out 4; have hcgb235_5 : w68.cell? ⟨gb235, 5, none⟩ = some (.int .i64 t245) := bt BK235 rfl; have hfgb235_5 := blk_frozen BK235.out 5; have hcgb235_6 : w68.cell? ⟨gb235, 6, none⟩ = some (.int .i64 t247) := bt BK235 rfl; have hfgb235_6 := blk_frozen BK235.out 6; have hcgb235_7 : w68.cell? ⟨gb235, 7, none⟩ = some (.int .i64 t249) := bt BK235 rfl; have hfgb235_7 := blk_frozen BK235.out 7; have hcgb226_0 : w68.cell? ⟨gb226, 0, none⟩ = some (.int .i64 0) := bt BK226 rfl; have hfgb226_0 := blk_frozen BK226.out 0; have hcgb226_1 : w68.cell? ⟨gb226, 1, none⟩ = some (.int .i64 0) := bt BK226 rfl; have hfgb226_1 := blk_frozen BK226.out 1; have hcgb226_2 : w68.cell? ⟨gb226, 2, none⟩ = some (.int .i64 0) := bt BK226 rfl; have hfgb226_2 := blk_frozen BK226.out 2; have hcgb226_3 : w68.cell? ⟨gb226, 3, none⟩ = some (.int .i64 0) := bt BK226 rfl; have hfgb226_3 := blk_frozen BK226.out 3; have hcgb226_4 : w68.cell? ⟨gb226, 4, none⟩ = some (.int .i64 0) := bt BK226 rfl; have hfgb226_4 := blk_frozen BK226.out 4; have hcgb226_5 : w68.cell? ⟨gb226, 5, none⟩ = some (.int .i64 0) := bt BK226 rfl; have hfgb226_5 := blk_frozen BK226.out 5; have hcgb226_6 : w68.cell? ⟨gb226, 6, none⟩ = some (.int .i64 0) := bt BK226 rfl; have hfgb226_6 := blk_frozen BK226.out 6; have hcgb226_7 : w68.cell? ⟨gb226, 7, none⟩ = some (.int .i64 0) := bt BK226 rfl; have hfgb226_7 := blk_frozen BK226.out 7))
                refine bodyPost_ret (results_ct rfl _ _ gb226 37 #[.int .i64 0, .int .i64 0, .int .i64 0, .int .i64 0, .int .i64 0, .int .i64 0, .int .i64 0, .int .i64 0] (0, 0) _ rfl (by (with_reducible repeat (first | apply bn | apply bd | apply ba)); exact p8 BK226) Tryd.underlying37 rfl (by kernel_rfl)) rfl ?_
                exact ⟨by first | rfl | (simp [errW_none, errW_some] <;> rfl) | (simp [*, errW_none, errW_some] <;> rfl), by repeat (first | (with_reducible first | exact HB.out | apply wa | apply wn | apply wd | refine ws ‹_› ?_) | exact HB.out)⟩
            ·replace c28 := Bool.eq_false_iff.mpr c28
             subst c28
             have H1 : (some (0, 0, 0, 0, 0, 0, 0, 0, false)) = some (r1, r2, r3, r4, r5, r6, r7, r8, r9) := by rw [if_neg (show ¬ (false = true) by decide)] at H; exact H
             clear H
             have H := H1
             clear H1
             simp only [Option.some.injEq, Prod.mk.injEq] at H
             obtain ⟨rfl, rfl, rfl, rfl, rfl, rfl, rfl, rfl, rfl⟩ := H
             try go_wp2
             replace HO_4 := az (Kd.R_drew HO_4.out)
             replace BK226 := az (blk_drew BK226.out)
             replace HB := az (wd HB.out)
             obtain ⟨Ao71, co71, eo71⟩ := Kd.R_slice HO_4.out
             (first | subst eo71 | (injection eo71 with f1_ f2_ f3_; have f4_ := f1_.symm; have f5_ := f3_.symm; clear f1_ f2_ f3_; subst f4_; subst f5_))
             have p233 : 0 ≤ (0 : Int) := (by omega)
             have q233 : 0 < (t227.length : Int) := of_decide_eq_true (by first | (with_reducible assumption) | assumption)
             obtain ⟨ad233, e233, hx233_0⟩ := Kd.at_string (Kd.R_reads' HO_4.out).2.2 0 p233 q233
             cases e233
             have qi233 : (0 < t227.length) = True := eq_true (by omega)
             (try rw [show ((0 : Int)).toNat = 0 from rfl] at hx233_0)
             (try rw [Addr.add_zero'] at hx233_0)
             replace p233 := eq_true p233
             replace q233 := eq_true q233
             refine start_ (n := 8) (S := fun w' => w'.cell? ad233 = some (.string (rdOf ByteArray.empty t227 0))) (ds := []) #[false, false, false, false, false, false, false, false] (by kernel_rfl) rfl rfl (hx233_0) (fun hHeld => ?_); refine with_tabW impl_RecRead.tab4 impl_RecRead.bits4 (fun HT_ HW_ => ?_)
             generalize wc.drew = w70 at HO_4 BK226 HB hx233_0 hHeld ⊢
             refine pure_ (i := 1) (N := some 20) (v := ?_) (a' := ?_) #[false, true, false, false, false, false, false, false] rfl rfl (any_of HT_.out (by kernel_rfl)) (fun _ _ _ h => h) (Or.inl ⟨by rfl, ?_⟩) ?_ ?_
             rotate_left
             ·intro w'
              go_simp
              with_reducible rfl
             rotate_left
             ·simp only [Act.put, List.setIfInBounds_toArray, List.set_cons_zero, List.set_cons_succ, i64_w, i32_w]
              rfl
             refine pure_ (i := 2) (N := some 21) (v := ?_) (a' := ?_) #[false, true, true, false, false, false, false, false] rfl rfl (any_of HT_.out (by kernel_rfl)) (fun _ _ _ h => h) (Or.inl ⟨by rfl, ?_⟩) ?_ ?_
             rotate_left
             ·intro w'
              go_simp
              with_reducible rfl
             rotate_left
             ·simp only [Act.put, List.setIfInBounds_toArray, List.set_cons_zero, List.set_cons_succ, i64_w, i32_w]
              rfl
             refine take_ (i := 3) (N := some 22) (v := ?_) (a' := ?_) #[false, true, true, true, false, false, false, false] rfl rfl (take_ofW HT_.out HW_.out (by kernel_rfl)) (fun _ _ _ h => h) (Or.inl ⟨by rfl, ?_⟩) hHeld ?_ ?_
             rotate_left
             ·intro w' s0
              go_simp
              with_reducible rfl
             rotate_left
             ·simp only [Act.put, List.setIfInBounds_toArray, List.set_cons_zero, List.set_cons_succ, i64_w, i32_w]
              rfl
             refine join_ (σ := Value × Nat) 1 #[true, true, true, true, true, true, true, false] (fun s_ => [(19, s_.1), (23, .int .i64 t234), (5, .pointer (some ⟨s_.2, 0, none⟩)), (24, .agg #[.int .i64 t234, .int .i64 0, .int .i64 0, .int .i64 0, .int .i64 0, .int .i64 0, .int .i64 0, .int .i64 0])]) (fun s_ w' => (w'.cell? ad233 = some (.string (rdOf ByteArray.empty t227 0))) ∧ (Kd.R Kd.string 9 w' w.heap.size (fun k_ => some k_ ≠ (.slice (some ad233) t227.length co71 : Value).ownBlock) s_.1 t230) ∧ (Kd.R Kd.string 9 w' w.heap.size (fun k_ => some k_ ≠ (s_.1 : Value).ownBlock) (.slice (some ad233) t227.length co71) t227) ∧ (w'.heap[gb226]? = some (.cells #[.int .i64 0, .int .i64 0, .int .i64 0, .int .i64 0, .int .i64 0, .int .i64 0, .int .i64 0, .int .i64 0] 37 (0, 0))) ∧ (w'.heap[s_.2]? = some (.cells #[.int .i64 0, .int .i64 0, .int .i64 0, .int .i64 0, .int .i64 0, .int .i64 0, .int .i64 0, .int .i64 0] 37 (0, 0))) ∧ (w.heap.size ≤ s_.2) ∧ (w.heap.size ≤ s_.2) ∧ (gb226 ≠ s_.2) ∧ (s_.2 ≠ gb226) ∧ (Below w.heap.size w w')) ?_ ?_
             rotate_left
             ·intro hCont
              refine two_ (i := 0) (j := 6) (Ni := some 19) (Nj := some 5) #[true, true, true, true, false, false, false, false] #[false, true, true, true, false, false, true, false] rfl rfl rfl rfl (two_of HT_.out (by kernel_rfl)) (by decide) (by decide) (fun K hK => ?_) (fun K hK => ?_)
              ·skip
               refine goes_ Tryd.func45 (by kernel_rfl) rfl #[] (by rfl) rfl rfl (by (try simp only [List.map_toArray, List.map_cons, List.map_nil]); first | done | rfl | (simp only [List.length_drop, List.length_take]; rfl)) ?_
               with_reducible refine (impl_recNames.calls  t230 _ A10.out).mono ?_
               rintro e w72 ⟨v231, rfl, ho0, hb⟩
               have HS0_ := (hb.cell (World.block_lt_of_cell? _ _ (hHeld))).trans (hHeld)
               refine ⟨_, rfl, ?_⟩
               have HO232 := az (Kd.R_lower (Kd.R_new' ho0 (Kd.R_lt (by (with_reducible repeat (first | apply Kd.R_alloc | apply Kd.R_drewN | apply Kd.R_drew)); exact HO_4.out))) (below_size (by repeat (first | (with_reducible first | exact HB.out | apply wa | apply wn | apply wd | refine ws ‹_› ?_) | exact HB.out))))
               replace HO_4 := az (Kd.R_elder' (by (with_reducible repeat (first | apply Kd.R_alloc | apply Kd.R_drewN | apply Kd.R_drew)); exact HO_4.out) (Kd.R_base ho0) hb)
               replace BK226 := bb BK226 (fun h => by (with_reducible repeat (first | apply bn | apply bd | apply ba)); exact h) hb
               replace HB := az (below_step (by repeat (first | (with_reducible first | exact HB.out | apply wa | apply wn | apply wd | refine ws ‹_› ?_) | exact HB.out)) hb)
               (try clear hb);(try clear hb2);(try clear hk);(try clear hi);(try clear ho0)
               refine hK.out _ _ (HS0_) (fun hHeld => ?_)
               clear hK K
               refine norm_ (a' := ?_) ?_ ?_
               rotate_left
               ·show Act.put _ (some 19) _ = _
                simp only [Act.put, List.setIfInBounds_toArray, List.set_cons_zero, List.set_cons_succ, i64_w, i32_w]
                rfl
               refine two_ (i := 4) (j := 6) (Ni := some 23) (Nj := some 5) #[true, true, true, true, true, false, false, false] #[true, true, true, true, false, false, true, false] rfl rfl rfl rfl (two_of HT_.out (by kernel_rfl)) (by decide) (by decide) (fun K hK => ?_) (fun K hK => ?_)
               ·skip
                refine goes_ Tryd.func49 (by kernel_rfl) rfl #[v231, .string (rdOf ByteArray.empty t227 0)] (by rfl) rfl rfl (by (try simp only [List.map_toArray, List.map_cons, List.map_nil]); first | done | rfl | (simp only [List.length_drop, List.length_take]; rfl)) ?_
                with_reducible refine (index_calls v231 t230 (rdOf ByteArray.empty t227 0) t234 _ (by (with_reducible repeat (first | apply Kd.R_alloc | apply Kd.R_drewN | apply Kd.R_drew)); exact HO232.out) A12.out).mono ?_
                rintro e w' ⟨rfl, ⟨nd, rfl⟩⟩
                refine ⟨_, rfl, ?_⟩
                refine hK.out _ _ (hHeld) (fun hHeld => ?_)
                clear hK K
                refine norm_ (a' := ?_) ?_ ?_
                rotate_left
                ·show Act.put _ (some 23) _ = _
                 simp only [Act.put, List.setIfInBounds_toArray, List.set_cons_zero, List.set_cons_succ, i64_w, i32_w]
                 rfl
                refine pure_ (i := 5) (N := some 24) (v := ?_) (a' := ?_) #[true, true, true, true, true, true, false, false] rfl rfl (any_of HT_.out (by kernel_rfl)) (fun _ _ _ h => h) (Or.inl ⟨by rfl, ?_⟩) ?_ ?_
                rotate_left
                ·intro w'
                 go_simp
                 with_reducible rfl
                rotate_left
                ·simp only [Act.put, List.setIfInBounds_toArray, List.set_cons_zero, List.set_cons_succ, i64_w, i32_w]
                 rfl
                refine one_ (i := 6) (N := some 5) #[true, true, true, true, true, true, true, false] rfl rfl (one_of HT_.out (by kernel_rfl)) (by decide) (fun K hK => ?_)
                refine box_step ?hg (N := 5) ?hd (cs := #[.int .i64 0, .int .i64 0, .int .i64 0, .int .i64 0, .int .i64 0, .int .i64 0, .int .i64 0, .int .i64 0]) (t := 37) ?hr ?_; (case hd => rfl); (case hg => rfl); (case hr => first | (go_simp; done) | (go_simp; rfl))
                intro gb235 hg w73 hbox hb
                have HS0_ := (hb.cell (World.block_lt_of_cell? _ _ (hHeld))).trans (hHeld)
                replace HO_4 := az (Kd.R_below (by (with_reducible repeat (first | apply Kd.R_alloc | apply Kd.R_drewN | apply Kd.R_drew)); exact HO_4.out) hb)
                replace HO232 := az (Kd.R_below (by (with_reducible repeat (first | apply Kd.R_alloc | apply Kd.R_drewN | apply Kd.R_drew)); exact HO232.out) hb)
                have BK235 := az (hbox)
                have GW235 := az ((by rw [hg]; exact (below_size (by repeat (first | (with_reducible first | exact HB.out | apply wa | apply wn | apply wd | refine ws ‹_› ?_) | exact HB.out))) : w.heap.size ≤ gb235))
                have GE235 := GW235
                replace HB := az (below_step (by repeat (first | (with_reducible first | exact HB.out | apply wa | apply wn | apply wd | refine ws ‹_› ?_) | exact HB.out)) hb)
                obtain ⟨NB226_235, NB235_226⟩ := nb BK226 hg (fun h => by (with_reducible repeat (first | apply bn | apply bd | apply ba)); exact h)
                replace BK226 := bb BK226 (fun h => by (with_reducible repeat (first | apply bn | apply bd | apply ba)); exact h) hb
                clear hb hbox hg
                refine hK.out _ _ (HS0_) (fun hHeld => ?_)
                clear hK K
                refine norm_ (a' := ?_) ?_ ?_
                rotate_left
                ·show Act.put _ (some 5) _ = _
                 simp only [Act.put, List.setIfInBounds_toArray, List.set_cons_zero, List.set_cons_succ, i64_w, i32_w]
                 rfl
                exact norm_ (by simp only [putAll, Act.put, List.setIfInBounds_toArray, List.set_cons_zero, List.set_cons_succ]) (hCont (v231, gb235) _ ⟨hHeld, (by (with_reducible repeat (first | apply Kd.R_alloc | apply Kd.R_drewN | apply Kd.R_drew)); exact Kd.R_mono HO232.out (fun _ hk => hk.2)), (by (with_reducible repeat (first | apply Kd.R_alloc | apply Kd.R_drewN | apply Kd.R_drew)); exact Kd.R_mono HO_4.out (fun _ hk => hk.2)), (by (with_reducible repeat (first | apply bn | apply bd | apply ba)); exact BK226.out), (by (with_reducible repeat (first | apply bn | apply bd | apply ba)); exact BK235.out), GW235.out, GE235.out, NB226_235.out, NB235_226.out, (by repeat (first | (with_reducible first | exact HB.out | apply wa | apply wn | apply wd | refine ws ‹_› ?_) | exact HB.out))⟩)
               ·skip
                refine box_step ?hg (N := 5) ?hd (cs := #[.int .i64 0, .int .i64 0, .int .i64 0, .int .i64 0, .int .i64 0, .int .i64 0, .int .i64 0, .int .i64 0]) (t := 37) ?hr ?_; (case hd => rfl); (case hg => rfl); (case hr => first | (go_simp; done) | (go_simp; rfl))
                intro gb235 hg w73 hbox hb
                have HS0_ := (hb.cell (World.block_lt_of_cell? _ _ (hHeld))).trans (hHeld)
                replace HO_4 := az (Kd.R_below (by (with_reducible repeat (first | apply Kd.R_alloc | apply Kd.R_drewN | apply Kd.R_drew)); exact HO_4.out) hb)
                replace HO232 := az (Kd.R_below (by (with_reducible repeat (first | apply Kd.R_alloc | apply Kd.R_drewN | apply Kd.R_drew)); exact HO232.out) hb)
                have BK235 := az (hbox)
                have GW235 := az ((by rw [hg]; exact (below_size (by repeat (first | (with_reducible first | exact HB.out | apply wa | apply wn | apply wd | refine ws ‹_› ?_) | exact HB.out))) : w.heap.size ≤ gb235))
                have GE235 := GW235
                replace HB := az (below_step (by repeat (first | (with_reducible first | exact HB.out | apply wa | apply wn | apply wd | refine ws ‹_› ?_) | exact HB.out)) hb)
                obtain ⟨NB226_235, NB235_226⟩ := nb BK226 hg (fun h => by (with_reducible repeat (first | apply bn | apply bd | apply ba)); exact h)
                replace BK226 := bb BK226 (fun h => by (with_reducible repeat (first | apply bn | apply bd | apply ba)); exact h) hb
                clear hb hbox hg
                refine hK.out _ _ (HS0_) (fun hHeld => ?_)
                clear hK K
                refine norm_ (a' := ?_) ?_ ?_
                rotate_left
                ·show Act.put _ (some 5) _ = _
                 simp only [Act.put, List.setIfInBounds_toArray, List.set_cons_zero, List.set_cons_succ, i64_w, i32_w]
                 rfl
                refine one_ (i := 4) (N := some 23) #[true, true, true, true, true, false, true, false] rfl rfl (one_of HT_.out (by kernel_rfl)) (by decide) (fun K hK => ?_)
                refine goes_ Tryd.func49 (by kernel_rfl) rfl #[v231, .string (rdOf ByteArray.empty t227 0)] (by rfl) rfl rfl (by (try simp only [List.map_toArray, List.map_cons, List.map_nil]); first | done | rfl | (simp only [List.length_drop, List.length_take]; rfl)) ?_
                with_reducible refine (index_calls v231 t230 (rdOf ByteArray.empty t227 0) t234 _ (by (with_reducible repeat (first | apply Kd.R_alloc | apply Kd.R_drewN | apply Kd.R_drew)); exact HO232.out) A12.out).mono ?_
                rintro e w' ⟨rfl, ⟨nd, rfl⟩⟩
                refine ⟨_, rfl, ?_⟩
                refine hK.out _ _ (hHeld) (fun hHeld => ?_)
                clear hK K
                refine norm_ (a' := ?_) ?_ ?_
                rotate_left
                ·show Act.put _ (some 23) _ = _
                 simp only [Act.put, List.setIfInBounds_toArray, List.set_cons_zero, List.set_cons_succ, i64_w, i32_w]
                 rfl
                refine pure_ (i := 5) (N := some 24) (v := ?_) (a' := ?_) #[true, true, true, true, true, true, true, false] rfl rfl (any_of HT_.out (by kernel_rfl)) (fun _ _ _ h => h) (Or.inl ⟨by rfl, ?_⟩) ?_ ?_
                rotate_left
                ·intro w'
                 go_simp
                 with_reducible rfl
                rotate_left
                ·simp only [Act.put, List.setIfInBounds_toArray, List.set_cons_zero, List.set_cons_succ, i64_w, i32_w]
                 rfl
                exact norm_ (by simp only [putAll, Act.put, List.setIfInBounds_toArray, List.set_cons_zero, List.set_cons_succ]) (hCont (v231, gb235) _ ⟨hHeld, (by (with_reducible repeat (first | apply Kd.R_alloc | apply Kd.R_drewN | apply Kd.R_drew)); exact Kd.R_mono HO232.out (fun _ hk => hk.2)), (by (with_reducible repeat (first | apply Kd.R_alloc | apply Kd.R_drewN | apply Kd.R_drew)); exact Kd.R_mono HO_4.out (fun _ hk => hk.2)), (by (with_reducible repeat (first | apply bn | apply bd | apply ba)); exact BK226.out), (by (with_reducible repeat (first | apply bn | apply bd | apply ba)); exact BK235.out), GW235.out, GE235.out, NB226_235.out, NB235_226.out, (by repeat (first | (with_reducible first | exact HB.out | apply wa | apply wn | apply wd | refine ws ‹_› ?_) | exact HB.out))⟩)
              ·skip
               refine box_step ?hg (N := 5) ?hd (cs := #[.int .i64 0, .int .i64 0, .int .i64 0, .int .i64 0, .int .i64 0, .int .i64 0, .int .i64 0, .int .i64 0]) (t := 37) ?hr ?_; (case hd => rfl); (case hg => rfl); (case hr => first | (go_simp; done) | (go_simp; rfl))
               intro gb235 hg w72 hbox hb
               have HS0_ := (hb.cell (World.block_lt_of_cell? _ _ (hHeld))).trans (hHeld)
               replace HO_4 := az (Kd.R_below (by (with_reducible repeat (first | apply Kd.R_alloc | apply Kd.R_drewN | apply Kd.R_drew)); exact HO_4.out) hb)
               have BK235 := az (hbox)
               have GW235 := az ((by rw [hg]; exact (below_size (by repeat (first | (with_reducible first | exact HB.out | apply wa | apply wn | apply wd | refine ws ‹_› ?_) | exact HB.out))) : w.heap.size ≤ gb235))
               have GE235 := GW235
               replace HB := az (below_step (by repeat (first | (with_reducible first | exact HB.out | apply wa | apply wn | apply wd | refine ws ‹_› ?_) | exact HB.out)) hb)
               obtain ⟨NB226_235, NB235_226⟩ := nb BK226 hg (fun h => by (with_reducible repeat (first | apply bn | apply bd | apply ba)); exact h)
               replace BK226 := bb BK226 (fun h => by (with_reducible repeat (first | apply bn | apply bd | apply ba)); exact h) hb
               clear hb hbox hg
               refine hK.out _ _ (HS0_) (fun hHeld => ?_)
               clear hK K
               refine norm_ (a' := ?_) ?_ ?_
               rotate_left
               ·show Act.put _ (some 5) _ = _
                simp only [Act.put, List.setIfInBounds_toArray, List.set_cons_zero, List.set_cons_succ, i64_w, i32_w]
                rfl
               refine one_ (i := 0) (N := some 19) #[true, true, true, true, false, false, true, false] rfl rfl (one_of HT_.out (by kernel_rfl)) (by decide) (fun K hK => ?_)
               refine goes_ Tryd.func45 (by kernel_rfl) rfl #[] (by rfl) rfl rfl (by (try simp only [List.map_toArray, List.map_cons, List.map_nil]); first | done | rfl | (simp only [List.length_drop, List.length_take]; rfl)) ?_
               with_reducible refine (impl_recNames.calls  t230 _ A10.out).mono ?_
               rintro e w73 ⟨v231, rfl, ho0, hb⟩
               have HS0_ := (hb.cell (World.block_lt_of_cell? _ _ (hHeld))).trans (hHeld)
               refine ⟨_, rfl, ?_⟩
               have HO232 := az (Kd.R_lower (Kd.R_new' ho0 (Kd.R_lt (by (with_reducible repeat (first | apply Kd.R_alloc | apply Kd.R_drewN | apply Kd.R_drew)); exact HO_4.out))) (below_size (by repeat (first | (with_reducible first | exact HB.out | apply wa | apply wn | apply wd | refine ws ‹_› ?_) | exact HB.out))))
               replace HO_4 := az (Kd.R_elder' (by (with_reducible repeat (first | apply Kd.R_alloc | apply Kd.R_drewN | apply Kd.R_drew)); exact HO_4.out) (Kd.R_base ho0) hb)
               replace BK226 := bb BK226 (fun h => by (with_reducible repeat (first | apply bn | apply bd | apply ba)); exact h) hb
               replace BK235 := bb BK235 (fun h => by (with_reducible repeat (first | apply bn | apply bd | apply ba)); exact h) hb
               replace HB := az (below_step (by repeat (first | (with_reducible first | exact HB.out | apply wa | apply wn | apply wd | refine ws ‹_› ?_) | exact HB.out)) hb)
               (try clear hb);(try clear hb2);(try clear hk);(try clear hi);(try clear ho0)
               refine hK.out _ _ (HS0_) (fun hHeld => ?_)
               clear hK K
               refine norm_ (a' := ?_) ?_ ?_
               rotate_left
               ·show Act.put _ (some 19) _ = _
                simp only [Act.put, List.setIfInBounds_toArray, List.set_cons_zero, List.set_cons_succ, i64_w, i32_w]
                rfl
               refine one_ (i := 4) (N := some 23) #[true, true, true, true, true, false, true, false] rfl rfl (one_of HT_.out (by kernel_rfl)) (by decide) (fun K hK => ?_)
               refine goes_ Tryd.func49 (by kernel_rfl) rfl #[v231, .string (rdOf ByteArray.empty t227 0)] (by rfl) rfl rfl (by (try simp only [List.map_toArray, List.map_cons, List.map_nil]); first | done | rfl | (simp only [List.length_drop, List.length_take]; rfl)) ?_
               with_reducible refine (index_calls v231 t230 (rdOf ByteArray.empty t227 0) t234 _ (by (with_reducible repeat (first | apply Kd.R_alloc | apply Kd.R_drewN | apply Kd.R_drew)); exact HO232.out) A12.out).mono ?_
               rintro e w' ⟨rfl, ⟨nd, rfl⟩⟩
               refine ⟨_, rfl, ?_⟩
               refine hK.out _ _ (hHeld) (fun hHeld => ?_)
               clear hK K
               refine norm_ (a' := ?_) ?_ ?_
               rotate_left
               ·show Act.put _ (some 23) _ = _
                simp only [Act.put, List.setIfInBounds_toArray, List.set_cons_zero, List.set_cons_succ, i64_w, i32_w]
                rfl
               refine pure_ (i := 5) (N := some 24) (v := ?_) (a' := ?_) #[true, true, true, true, true, true, true, false] rfl rfl (any_of HT_.out (by kernel_rfl)) (fun _ _ _ h => h) (Or.inl ⟨by rfl, ?_⟩) ?_ ?_
               rotate_left
               ·intro w'
                go_simp
                with_reducible rfl
               rotate_left
               ·simp only [Act.put, List.setIfInBounds_toArray, List.set_cons_zero, List.set_cons_succ, i64_w, i32_w]
                rfl
               exact norm_ (by simp only [putAll, Act.put, List.setIfInBounds_toArray, List.set_cons_zero, List.set_cons_succ]) (hCont (v231, gb235) _ ⟨hHeld, (by (with_reducible repeat (first | apply Kd.R_alloc | apply Kd.R_drewN | apply Kd.R_drew)); exact Kd.R_mono HO232.out (fun _ hk => hk.2)), (by (with_reducible repeat (first | apply Kd.R_alloc | apply Kd.R_drewN | apply Kd.R_drew)); exact Kd.R_mono HO_4.out (fun _ hk => hk.2)), (by (with_reducible repeat (first | apply bn | apply bd | apply ba)); exact BK226.out), (by (with_reducible repeat (first | apply bn | apply bd | apply ba)); exact BK235.out), GW235.out, GE235.out, NB226_235.out, NB235_226.out, (by repeat (first | (with_reducible first | exact HB.out | apply wa | apply wn | apply wd | refine ws ‹_› ?_) | exact HB.out))⟩)
             rintro ⟨v231, gb235⟩ w74 ⟨hS_, h0_, h1_, h2_, h3_, h4_, h5_, h6_, h7_, h8_⟩
             have HO232 : Aside0 (Kd.R Kd.string 9 w74 w.heap.size (fun k_ => some k_ ≠ (.slice (some ad233) t227.length co71 : Value).ownBlock) v231 t230) := ⟨h0_⟩
             replace HO_4 : Aside0 (Kd.R Kd.string 9 w74 w.heap.size (fun k_ => some k_ ≠ (v231 : Value).ownBlock) (.slice (some ad233) t227.length co71) t227) := ⟨h1_⟩
             replace BK226 : Aside0 (w74.heap[gb226]? = some (.cells #[.int .i64 0, .int .i64 0, .int .i64 0, .int .i64 0, .int .i64 0, .int .i64 0, .int .i64 0, .int .i64 0] 37 (0, 0))) := ⟨h2_⟩
             have BK235 : Aside0 (w74.heap[gb235]? = some (.cells #[.int .i64 0, .int .i64 0, .int .i64 0, .int .i64 0, .int .i64 0, .int .i64 0, .int .i64 0, .int .i64 0] 37 (0, 0))) := ⟨h3_⟩
             have GW235 : Aside0 (w.heap.size ≤ gb235) := ⟨h4_⟩
             have GE235 : Aside0 (w.heap.size ≤ gb235) := ⟨h5_⟩
             have NB226_235 : Aside0 (gb226 ≠ gb235) := ⟨h6_⟩
             have NB235_226 : Aside0 (gb235 ≠ gb226) := ⟨h7_⟩
             replace HB : Aside0 (Below w.heap.size w w74) := ⟨h8_⟩
             clear h0_ h1_ h2_ h3_ h4_ h5_ h6_ h7_ h8_
             have hHeld : w74.cell? ad233 = some (.string (rdOf ByteArray.empty t227 0)) := hS_
             refine norm_ (a' := ?_) ?_ ?_
             rotate_left
             ·simp only [putAll, Act.put, List.setIfInBounds_toArray, List.set_cons_zero, List.set_cons_succ]
              rfl
             refine one_ (i := 7) (N := none) #[true, true, true, true, true, true, true, true] rfl rfl (one_of HT_.out (by kernel_rfl)) (by decide) (fun K hK => ?_)
             have hs75 : w74.cell? ⟨gb235, 0, none⟩ = some (.int .i64 0) := bt BK235 rfl
             have hfs75 := blk_frozen BK235.out 0
             have hns75_0 := NB226_235.out
             have hms75_0 := NB235_226.out
             have hs76 : w74.cell? ⟨gb235, 1, none⟩ = some (.int .i64 0) := bt BK235 rfl
             have hfs76 := blk_frozen BK235.out 1
             have hns76_0 := NB226_235.out
             have hms76_0 := NB235_226.out
             have hs77 : w74.cell? ⟨gb235, 2, none⟩ = some (.int .i64 0) := bt BK235 rfl
             have hfs77 := blk_frozen BK235.out 2
             have hns77_0 := NB226_235.out
             have hms77_0 := NB235_226.out
             have hs78 : w74.cell? ⟨gb235, 3, none⟩ = some (.int .i64 0) := bt BK235 rfl
             have hfs78 := blk_frozen BK235.out 3
             have hns78_0 := NB226_235.out
             have hms78_0 := NB235_226.out
             have hs79 : w74.cell? ⟨gb235, 4, none⟩ = some (.int .i64 0) := bt BK235 rfl
             have hfs79 := blk_frozen BK235.out 4
             have hns79_0 := NB226_235.out
             have hms79_0 := NB235_226.out
             have hs80 : w74.cell? ⟨gb235, 5, none⟩ = some (.int .i64 0) := bt BK235 rfl
             have hfs80 := blk_frozen BK235.out 5
             have hns80_0 := NB226_235.out
             have hms80_0 := NB235_226.out
             have hs81 : w74.cell? ⟨gb235, 6, none⟩ = some (.int .i64 0) := bt BK235 rfl
             have hfs81 := blk_frozen BK235.out 6
             have hns81_0 := NB226_235.out
             have hms81_0 := NB235_226.out
             have hs82 : w74.cell? ⟨gb235, 7, none⟩ = some (.int .i64 0) := bt BK235 rfl
             have hfs82 := blk_frozen BK235.out 7
             have hns82_0 := NB226_235.out
             have hms82_0 := NB235_226.out
             refine skip_ (w1 := ?_) (by rfl) rfl ?_ ?_
             rotate_left
             ·go_simp
              rfl
             refine hK.out _ _ (((cell_far (p := ⟨gb235, _, none⟩) (by first | exact Kd.own_blk (Kd.R_ne HO_4.out BK235.out (by decide)) | (rw [add_block]; exact Kd.own_blk (Kd.R_ne HO_4.out BK235.out (by decide))) | (show (Addr.add _ _).block ≠ _; rw [add_block]; exact Kd.own_blk (Kd.R_ne HO_4.out BK235.out (by decide))) | (dsimp only; exact Kd.own_blk (Kd.R_ne HO_4.out BK235.out (by decide)))) _).trans (((cell_far (p := ⟨gb235, _, none⟩) (by first | exact Kd.own_blk (Kd.R_ne HO_4.out BK235.out (by decide)) | (rw [add_block]; exact Kd.own_blk (Kd.R_ne HO_4.out BK235.out (by decide))) | (show (Addr.add _ _).block ≠ _; rw [add_block]; exact Kd.own_blk (Kd.R_ne HO_4.out BK235.out (by decide))) | (dsimp only; exact Kd.own_blk (Kd.R_ne HO_4.out BK235.out (by decide)))) _).trans (((cell_far (p := ⟨gb235, _, none⟩) (by first | exact Kd.own_blk (Kd.R_ne HO_4.out BK235.out (by decide)) | (rw [add_block]; exact Kd.own_blk (Kd.R_ne HO_4.out BK235.out (by decide))) | (show (Addr.add _ _).block ≠ _; rw [add_block]; exact Kd.own_blk (Kd.R_ne HO_4.out BK235.out (by decide))) | (dsimp only; exact Kd.own_blk (Kd.R_ne HO_4.out BK235.out (by decide)))) _).trans (((cell_far (p := ⟨gb235, _, none⟩) (by first | exact Kd.own_blk (Kd.R_ne HO_4.out BK235.out (by decide)) | (rw [add_block]; exact Kd.own_blk (Kd.R_ne HO_4.out BK235.out (by decide))) | (show (Addr.add _ _).block ≠ _; rw [add_block]; exact Kd.own_blk (Kd.R_ne HO_4.out BK235.out (by decide))) | (dsimp only; exact Kd.own_blk (Kd.R_ne HO_4.out BK235.out (by decide)))) _).trans (((cell_far (p := ⟨gb235, _, none⟩) (by first | exact Kd.own_blk (Kd.R_ne HO_4.out BK235.out (by decide)) | (rw [add_block]; exact Kd.own_blk (Kd.R_ne HO_4.out BK235.out (by decide))) | (show (Addr.add _ _).block ≠ _; rw [add_block]; exact Kd.own_blk (Kd.R_ne HO_4.out BK235.out (by decide))) | (dsimp only; exact Kd.own_blk (Kd.R_ne HO_4.out BK235.out (by decide)))) _).trans (((cell_far (p := ⟨gb235, _, none⟩) (by first | exact Kd.own_blk (Kd.R_ne HO_4.out BK235.out (by decide)) | (rw [add_block]; exact Kd.own_blk (Kd.R_ne HO_4.out BK235.out (by decide))) | (show (Addr.add _ _).block ≠ _; rw [add_block]; exact Kd.own_blk (Kd.R_ne HO_4.out BK235.out (by decide))) | (dsimp only; exact Kd.own_blk (Kd.R_ne HO_4.out BK235.out (by decide)))) _).trans (((cell_far (p := ⟨gb235, _, none⟩) (by first | exact Kd.own_blk (Kd.R_ne HO_4.out BK235.out (by decide)) | (rw [add_block]; exact Kd.own_blk (Kd.R_ne HO_4.out BK235.out (by decide))) | (show (Addr.add _ _).block ≠ _; rw [add_block]; exact Kd.own_blk (Kd.R_ne HO_4.out BK235.out (by decide))) | (dsimp only; exact Kd.own_blk (Kd.R_ne HO_4.out BK235.out (by decide)))) _).trans (((cell_far (p := ⟨gb235, _, none⟩) (by first | exact Kd.own_blk (Kd.R_ne HO_4.out BK235.out (by decide)) | (rw [add_block]; exact Kd.own_blk (Kd.R_ne HO_4.out BK235.out (by decide))) | (show (Addr.add _ _).block ≠ _; rw [add_block]; exact Kd.own_blk (Kd.R_ne HO_4.out BK235.out (by decide))) | (dsimp only; exact Kd.own_blk (Kd.R_ne HO_4.out BK235.out (by decide)))) _).trans (hHeld))))))))))))))))) (fun hHeld => ?_)
             clear hK K
             refine done_ (done_of HT_.out (by kernel_rfl)) ?_
             have n0_ := az (Kd.R_mono (ok' := fun _ => True) (Kd.R_far (p := ⟨gb235, 7, none⟩) (Kd.R_far (p := ⟨gb235, 6, none⟩) (Kd.R_far (p := ⟨gb235, 5, none⟩) (Kd.R_far (p := ⟨gb235, 4, none⟩) (Kd.R_far (p := ⟨gb235, 3, none⟩) (Kd.R_far (p := ⟨gb235, 2, none⟩) (Kd.R_far (p := ⟨gb235, 1, none⟩) (Kd.R_far (p := ⟨gb235, 0, none⟩) (Kd.R_types HO_4.out BK235.out (by decide)) (fun _ hk => hk.2) (.int .i64 t234)) (fun _ hk => hk.2) (.int .i64 0)) (fun _ hk => hk.2) (.int .i64 0)) (fun _ hk => hk.2) (.int .i64 0)) (fun _ hk => hk.2) (.int .i64 0)) (fun _ hk => hk.2) (.int .i64 0)) (fun _ hk => hk.2) (.int .i64 0)) (fun _ hk => hk.2) (.int .i64 0)) (fun _ _ => trivial))
             have n1_ := az (blk_far (p := ⟨gb235, 7, none⟩) (blk_far (p := ⟨gb235, 6, none⟩) (blk_far (p := ⟨gb235, 5, none⟩) (blk_far (p := ⟨gb235, 4, none⟩) (blk_far (p := ⟨gb235, 3, none⟩) (blk_far (p := ⟨gb235, 2, none⟩) (blk_far (p := ⟨gb235, 1, none⟩) (blk_far (p := ⟨gb235, 0, none⟩) (BK226.out) NB226_235.out (.int .i64 t234)) NB226_235.out (.int .i64 0)) NB226_235.out (.int .i64 0)) NB226_235.out (.int .i64 0)) NB226_235.out (.int .i64 0)) NB226_235.out (.int .i64 0)) NB226_235.out (.int .i64 0)) NB226_235.out (.int .i64 0))
             have n2_ := az (blk_put (cs := #[.int .i64 t234, .int .i64 0, .int .i64 0, .int .i64 0, .int .i64 0, .int .i64 0, .int .i64 0, .int .i64 0]) (cs' := #[.int .i64 t234, .int .i64 0, .int .i64 0, .int .i64 0, .int .i64 0, .int .i64 0, .int .i64 0, .int .i64 0]) (blk_put (cs := #[.int .i64 t234, .int .i64 0, .int .i64 0, .int .i64 0, .int .i64 0, .int .i64 0, .int .i64 0, .int .i64 0]) (cs' := #[.int .i64 t234, .int .i64 0, .int .i64 0, .int .i64 0, .int .i64 0, .int .i64 0, .int .i64 0, .int .i64 0]) (blk_put (cs := #[.int .i64 t234, .int .i64 0, .int .i64 0, .int .i64 0, .int .i64 0, .int .i64 0, .int .i64 0, .int .i64 0]) (cs' := #[.int .i64 t234, .int .i64 0, .int .i64 0, .int .i64 0, .int .i64 0, .int .i64 0, .int .i64 0, .int .i64 0]) (blk_put (cs := #[.int .i64 t234, .int .i64 0, .int .i64 0, .int .i64 0, .int .i64 0, .int .i64 0, .int .i64 0, .int .i64 0]) (cs' := #[.int .i64 t234, .int .i64 0, .int .i64 0, .int .i64 0, .int .i64 0, .int .i64 0, .int .i64 0, .int .i64 0]) (blk_put (cs := #[.int .i64 t234, .int .i64 0, .int .i64 0, .int .i64 0, .int .i64 0, .int .i64 0, .int .i64 0, .int .i64 0]) (cs' := #[.int .i64 t234, .int .i64 0, .int .i64 0, .int .i64 0, .int .i64 0, .int .i64 0, .int .i64 0, .int .i64 0]) (blk_put (cs := #[.int .i64 t234, .int .i64 0, .int .i64 0, .int .i64 0, .int .i64 0, .int .i64 0, .int .i64 0, .int .i64 0]) (cs' := #[.int .i64 t234, .int .i64 0, .int .i64 0, .int .i64 0, .int .i64 0, .int .i64 0, .int .i64 0, .int .i64 0]) (blk_put (cs := #[.int .i64 t234, .int .i64 0, .int .i64 0, .int .i64 0, .int .i64 0, .int .i64 0, .int .i64 0, .int .i64 0]) (cs' := #[.int .i64 t234, .int .i64 0, .int .i64 0, .int .i64 0, .int .i64 0, .int .i64 0, .int .i64 0, .int .i64 0]) (blk_put (cs := #[.int .i64 0, .int .i64 0, .int .i64 0, .int .i64 0, .int .i64 0, .int .i64 0, .int .i64 0, .int .i64 0]) (cs' := #[.int .i64 t234, .int .i64 0, .int .i64 0, .int .i64 0, .int .i64 0, .int .i64 0, .int .i64 0, .int .i64 0]) (BK235.out) 0 (.int .i64 t234) rfl) 1 (.int .i64 0) rfl) 2 (.int .i64 0) rfl) 3 (.int .i64 0) rfl) 4 (.int .i64 0) rfl) 5 (.int .i64 0) rfl) 6 (.int .i64 0) rfl) 7 (.int .i64 0) rfl)
             have n3_ := az (below_set (j := 7) (v := .int .i64 0) (below_set (j := 6) (v := .int .i64 0) (below_set (j := 5) (v := .int .i64 0) (below_set (j := 4) (v := .int .i64 0) (below_set (j := 3) (v := .int .i64 0) (below_set (j := 2) (v := .int .i64 0) (below_set (j := 1) (v := .int .i64 0) (below_set (j := 0) (v := .int .i64 t234) (HB.out) GE235.out) GE235.out) GE235.out) GE235.out) GE235.out) GE235.out) GE235.out) GE235.out)
             clear HO_4 HO232 BK226 BK235 HB hHeld
             refine hideE_ (fun w' => Aside0 (Kd.R Kd.string 9 w' w.heap.size (fun _ => True) (.slice (some ad233) t227.length co71) t227) ∧ Aside0 (w'.heap[gb226]? = some (.cells #[.int .i64 0, .int .i64 0, .int .i64 0, .int .i64 0, .int .i64 0, .int .i64 0, .int .i64 0, .int .i64 0] 37 (0, 0))) ∧ Aside0 (w'.heap[gb235]? = some (.cells #[.int .i64 t234, .int .i64 0, .int .i64 0, .int .i64 0, .int .i64 0, .int .i64 0, .int .i64 0, .int .i64 0] 37 (0, 0))) ∧ Aside0 (Below w.heap.size w w')) ⟨n0_, n1_, n2_, n3_⟩ (fun wl hl => ?_)
             clear n0_ n1_ n2_ n3_
             obtain ⟨HO_4, BK226, BK235, HB⟩ := hl
             have hgl := az (blk_lt BK235.out)
             go_wp2_with fail
             go_loopw [34] (fun s34 wr => ∃ k : Nat, k ≤ 7 ∧ s34 = .int .i64 k ∧ Aside0 (Kd.R Kd.string 9 wr w.heap.size (fun _ => True) (.slice (some ad233) t227.length co71) t227) ∧ Aside0 (wr.heap[gb226]? = some (.cells #[.int .i64 0, .int .i64 0, .int .i64 0, .int .i64 0, .int .i64 0, .int .i64 0, .int .i64 0, .int .i64 0] 37 (0, 0))) ∧ Aside0 (wr.heap[gb235]? = some (.cells (boxAt t234 t237 t239 t241 t243 t245 t247 t249 k) 37 (0, 0))) ∧ Aside0 (wr.heap[wl.heap.size]? = some (.cells #[.pointer (some ⟨gb235, 1, none⟩), .pointer (some ⟨gb235, 2, none⟩), .pointer (some ⟨gb235, 3, none⟩), .pointer (some ⟨gb235, 4, none⟩), .pointer (some ⟨gb235, 5, none⟩), .pointer (some ⟨gb235, 6, none⟩), .pointer (some ⟨gb235, 7, none⟩)] 71 (0, 0))) ∧ Aside0 (Below w.heap.size w wr)) (fun s34 _ => 7 - (intOf s34).toNat)
             case atStart => exact ⟨0, by omega, rfl, ⟨Kd.R_alloc HO_4.out _⟩, ⟨blk_alloc BK226.out _⟩, ⟨blk_alloc BK235.out _⟩, ⟨blk_new _ _⟩, ⟨wa HB.out⟩⟩
             case round =>
              clear HO_4 BK226 BK235 HB
              obtain ⟨k, hk, rfl, HOr, B6, B5, BP, HBr⟩ := hrel
              have hk7 : k = 0 ∨ k = 1 ∨ k = 2 ∨ k = 3 ∨ k = 4 ∨ k = 5 ∨ k = 6 ∨ k = 7 := by omega
              clear hk
              rcases hk7 with rfl | rfl | rfl | rfl | rfl | rfl | rfl | rfl
              ·have hp : wr.cell? ⟨wl.heap.size, 0, none⟩ = some (.pointer (some ⟨gb235, 1, none⟩)) := bt BP rfl
               have pq : 0 ≤ (1 : Int) := (by omega)
               have qq : (1 : Int) < (t227.length : Int) := of_decide_eq_true (by first | (with_reducible assumption) | assumption)
               obtain ⟨adq, eq, hxq⟩ := Kd.at_string (Kd.R_reads' HOr.out).2.2 1 pq qq
               obtain rfl : ad233 = adq := (by injection eq)
               (try simp only [show (1 : Int).toNat = 1 from rfl, Nat.reduceMul, Nat.reduceEqDiff, Go.Addr.add, ↓reduceIte] at hxq)
               have qi : (1 < t227.length) = True := eq_true (by omega)
               replace pq := eq_true pq
               replace qq := eq_true qq
               obtain ⟨hat1, hat2⟩ := atoiO_some A14.out
               have hs : wr.cell? ⟨gb235, 1, none⟩ = some (.int .i64 0) := bt B5 rfl
               have hfs := blk_frozen B5.out 1
               go_wp2_with fail
               refine (atoi_calls (rdOf ByteArray.empty t227 1) _ hat1 (HD.out.on HBr.out)).mono ?_
               rintro e wq ⟨ev, rfl, hb⟩
               rw [hat2]
               have HO2 := az (Kd.R_below HOr.out hb)
               have C6 := az (blk_below B6.out hb)
               have C5 := az (blk_below B5.out hb)
               have CP := az (blk_below BP.out hb)
               have HB2 := az (below_step HBr.out hb)
               clear hb
               have hs2 : wq.cell? ⟨gb235, 1, none⟩ = some (.int .i64 0) := bt C5 rfl
               have hfs2 := blk_frozen C5.out 1
               go_wp2_with fail
               go_roundw
               case rel => exact ⟨1, by omega, by go_num, ⟨Kd.R_mono (Kd.R_far (p := ⟨gb235, 1, none⟩) (Kd.R_types HO2.out C5.out (by decide)) (fun _ hk => hk.2) _) (fun _ _ => trivial)⟩, ⟨blk_far C6.out NB226_235.out _⟩, ⟨blk_put C5.out 1 _ rfl⟩, ⟨blk_far CP.out (by have := hgl.out; show wl.heap.size ≠ gb235; omega) _⟩, ⟨below_set HB2.out GE235.out⟩⟩
               case measure => simp [intOf]
              ·have hp : wr.cell? ⟨wl.heap.size, 1, none⟩ = some (.pointer (some ⟨gb235, 2, none⟩)) := bt BP rfl
               have pq : 0 ≤ (2 : Int) := (by omega)
               have qq : (2 : Int) < (t227.length : Int) := of_decide_eq_true (by first | (with_reducible assumption) | assumption)
               obtain ⟨adq, eq, hxq⟩ := Kd.at_string (Kd.R_reads' HOr.out).2.2 2 pq qq
               obtain rfl : ad233 = adq := (by injection eq)
               (try simp only [show (2 : Int).toNat = 2 from rfl, Nat.reduceMul, Nat.reduceEqDiff, Go.Addr.add, ↓reduceIte] at hxq)
               have qi : (2 < t227.length) = True := eq_true (by omega)
               replace pq := eq_true pq
               replace qq := eq_true qq
               obtain ⟨hat1, hat2⟩ := atoiO_some A16.out
               have hs : wr.cell? ⟨gb235, 2, none⟩ = some (.int .i64 0) := bt B5 rfl
               have hfs := blk_frozen B5.out 2
               go_wp2_with fail
               refine (atoi_calls (rdOf ByteArray.empty t227 2) _ hat1 (HD.out.on HBr.out)).mono ?_
               rintro e wq ⟨ev, rfl, hb⟩
               rw [hat2]
               have HO2 := az (Kd.R_below HOr.out hb)
               have C6 := az (blk_below B6.out hb)
               have C5 := az (blk_below B5.out hb)
               have CP := az (blk_below BP.out hb)
               have HB2 := az (below_step HBr.out hb)
               clear hb
               have hs2 : wq.cell? ⟨gb235, 2, none⟩ = some (.int .i64 0) := bt C5 rfl
               have hfs2 := blk_frozen C5.out 2
               go_wp2_with fail
               go_roundw
               case rel => exact ⟨2, by omega, by go_num, ⟨Kd.R_mono (Kd.R_far (p := ⟨gb235, 2, none⟩) (Kd.R_types HO2.out C5.out (by decide)) (fun _ hk => hk.2) _) (fun _ _ => trivial)⟩, ⟨blk_far C6.out NB226_235.out _⟩, ⟨blk_put C5.out 2 _ rfl⟩, ⟨blk_far CP.out (by have := hgl.out; show wl.heap.size ≠ gb235; omega) _⟩, ⟨below_set HB2.out GE235.out⟩⟩
               case measure => simp [intOf]
              ·have hp : wr.cell? ⟨wl.heap.size, 2, none⟩ = some (.pointer (some ⟨gb235, 3, none⟩)) := bt BP rfl
               have pq : 0 ≤ (3 : Int) := (by omega)
               have qq : (3 : Int) < (t227.length : Int) := of_decide_eq_true (by first | (with_reducible assumption) | assumption)
               obtain ⟨adq, eq, hxq⟩ := Kd.at_string (Kd.R_reads' HOr.out).2.2 3 pq qq
               obtain rfl : ad233 = adq := (by injection eq)
               (try simp only [show (3 : Int).toNat = 3 from rfl, Nat.reduceMul, Nat.reduceEqDiff, Go.Addr.add, ↓reduceIte] at hxq)
               have qi : (3 < t227.length) = True := eq_true (by omega)
               replace pq := eq_true pq
               replace qq := eq_true qq
               obtain ⟨hat1, hat2⟩ := atoiO_some A18.out
               have hs : wr.cell? ⟨gb235, 3, none⟩ = some (.int .i64 0) := bt B5 rfl
               have hfs := blk_frozen B5.out 3
               go_wp2_with fail
               refine (atoi_calls (rdOf ByteArray.empty t227 3) _ hat1 (HD.out.on HBr.out)).mono ?_
               rintro e wq ⟨ev, rfl, hb⟩
               rw [hat2]
               have HO2 := az (Kd.R_below HOr.out hb)
               have C6 := az (blk_below B6.out hb)
               have C5 := az (blk_below B5.out hb)
               have CP := az (blk_below BP.out hb)
               have HB2 := az (below_step HBr.out hb)
               clear hb
               have hs2 : wq.cell? ⟨gb235, 3, none⟩ = some (.int .i64 0) := bt C5 rfl
               have hfs2 := blk_frozen C5.out 3
               go_wp2_with fail
               go_roundw
               case rel => exact ⟨3, by omega, by go_num, ⟨Kd.R_mono (Kd.R_far (p := ⟨gb235, 3, none⟩) (Kd.R_types HO2.out C5.out (by decide)) (fun _ hk => hk.2) _) (fun _ _ => trivial)⟩, ⟨blk_far C6.out NB226_235.out _⟩, ⟨blk_put C5.out 3 _ rfl⟩, ⟨blk_far CP.out (by have := hgl.out; show wl.heap.size ≠ gb235; omega) _⟩, ⟨below_set HB2.out GE235.out⟩⟩
               case measure => simp [intOf]
              ·have hp : wr.cell? ⟨wl.heap.size, 3, none⟩ = some (.pointer (some ⟨gb235, 4, none⟩)) := bt BP rfl
               have pq : 0 ≤ (4 : Int) := (by omega)
               have qq : (4 : Int) < (t227.length : Int) := of_decide_eq_true (by first | (with_reducible assumption) | assumption)
               obtain ⟨adq, eq, hxq⟩ := Kd.at_string (Kd.R_reads' HOr.out).2.2 4 pq qq
               obtain rfl : ad233 = adq := (by injection eq)
               (try simp only [show (4 : Int).toNat = 4 from rfl, Nat.reduceMul, Nat.reduceEqDiff, Go.Addr.add, ↓reduceIte] at hxq)
               have qi : (4 < t227.length) = True := eq_true (by omega)
               replace pq := eq_true pq
               replace qq := eq_true qq
               obtain ⟨hat1, hat2⟩ := atoiO_some A20.out
               have hs : wr.cell? ⟨gb235, 4, none⟩ = some (.int .i64 0) := bt B5 rfl
               have hfs := blk_frozen B5.out 4
               go_wp2_with fail
               refine (atoi_calls (rdOf ByteArray.empty t227 4) _ hat1 (HD.out.on HBr.out)).mono ?_
               rintro e wq ⟨ev, rfl, hb⟩
               rw [hat2]
               have HO2 := az (Kd.R_below HOr.out hb)
               have C6 := az (blk_below B6.out hb)
               have C5 := az (blk_below B5.out hb)
               have CP := az (blk_below BP.out hb)
               have HB2 := az (below_step HBr.out hb)
               clear hb
               have hs2 : wq.cell? ⟨gb235, 4, none⟩ = some (.int .i64 0) := bt C5 rfl
               have hfs2 := blk_frozen C5.out 4
               go_wp2_with fail
               go_roundw
               case rel => exact ⟨4, by omega, by go_num, ⟨Kd.R_mono (Kd.R_far (p := ⟨gb235, 4, none⟩) (Kd.R_types HO2.out C5.out (by decide)) (fun _ hk => hk.2) _) (fun _ _ => trivial)⟩, ⟨blk_far C6.out NB226_235.out _⟩, ⟨blk_put C5.out 4 _ rfl⟩, ⟨blk_far CP.out (by have := hgl.out; show wl.heap.size ≠ gb235; omega) _⟩, ⟨below_set HB2.out GE235.out⟩⟩
               case measure => simp [intOf]
              ·have hp : wr.cell? ⟨wl.heap.size, 4, none⟩ = some (.pointer (some ⟨gb235, 5, none⟩)) := bt BP rfl
               have pq : 0 ≤ (5 : Int) := (by omega)
               have qq : (5 : Int) < (t227.length : Int) := of_decide_eq_true (by first | (with_reducible assumption) | assumption)
               obtain ⟨adq, eq, hxq⟩ := Kd.at_string (Kd.R_reads' HOr.out).2.2 5 pq qq
               obtain rfl : ad233 = adq := (by injection eq)
               (try simp only [show (5 : Int).toNat = 5 from rfl, Nat.reduceMul, Nat.reduceEqDiff, Go.Addr.add, ↓reduceIte] at hxq)
               have qi : (5 < t227.length) = True := eq_true (by omega)
               replace pq := eq_true pq
               replace qq := eq_true qq
               obtain ⟨hat1, hat2⟩ := atoiO_some A22.out
               have hs : wr.cell? ⟨gb235, 5, none⟩ = some (.int .i64 0) := bt B5 rfl
               have hfs := blk_frozen B5.out 5
               go_wp2_with fail
               refine (atoi_calls (rdOf ByteArray.empty t227 5) _ hat1 (HD.out.on HBr.out)).mono ?_
               rintro e wq ⟨ev, rfl, hb⟩
               rw [hat2]
               have HO2 := az (Kd.R_below HOr.out hb)
               have C6 := az (blk_below B6.out hb)
               have C5 := az (blk_below B5.out hb)
               have CP := az (blk_below BP.out hb)
               have HB2 := az (below_step HBr.out hb)
               clear hb
               have hs2 : wq.cell? ⟨gb235, 5, none⟩ = some (.int .i64 0) := bt C5 rfl
               have hfs2 := blk_frozen C5.out 5
               go_wp2_with fail
               go_roundw
               case rel => exact ⟨5, by omega, by go_num, ⟨Kd.R_mono (Kd.R_far (p := ⟨gb235, 5, none⟩) (Kd.R_types HO2.out C5.out (by decide)) (fun _ hk => hk.2) _) (fun _ _ => trivial)⟩, ⟨blk_far C6.out NB226_235.out _⟩, ⟨blk_put C5.out 5 _ rfl⟩, ⟨blk_far CP.out (by have := hgl.out; show wl.heap.size ≠ gb235; omega) _⟩, ⟨below_set HB2.out GE235.out⟩⟩
               case measure => simp [intOf]
              ·have hp : wr.cell? ⟨wl.heap.size, 5, none⟩ = some (.pointer (some ⟨gb235, 6, none⟩)) := bt BP rfl
               have pq : 0 ≤ (6 : Int) := (by omega)
               have qq : (6 : Int) < (t227.length : Int) := of_decide_eq_true (by first | (with_reducible assumption) | assumption)
               obtain ⟨adq, eq, hxq⟩ := Kd.at_string (Kd.R_reads' HOr.out).2.2 6 pq qq
               obtain rfl : ad233 = adq := (by injection eq)
               (try simp only [show (6 : Int).toNat = 6 from rfl, Nat.reduceMul, Nat.reduceEqDiff, Go.Addr.add, ↓reduceIte] at hxq)
               have qi : (6 < t227.length) = True := eq_true (by omega)
               replace pq := eq_true pq
               replace qq := eq_true qq
               obtain ⟨hat1, hat2⟩ := atoiO_some A24.out
               have hs : wr.cell? ⟨gb235, 6, none⟩ = some (.int .i64 0) := bt B5 rfl
               have hfs := blk_frozen B5.out 6
               go_wp2_with fail
               refine (atoi_calls (rdOf ByteArray.empty t227 6) _ hat1 (HD.out.on HBr.out)).mono ?_
               rintro e wq ⟨ev, rfl, hb⟩
               rw [hat2]
               have HO2 := az (Kd.R_below HOr.out hb)
               have C6 := az (blk_below B6.out hb)
               have C5 := az (blk_below B5.out hb)
               have CP := az (blk_below BP.out hb)
               have HB2 := az (below_step HBr.out hb)
               clear hb
               have hs2 : wq.cell? ⟨gb235, 6, none⟩ = some (.int .i64 0) := bt C5 rfl
               have hfs2 := blk_frozen C5.out 6
               go_wp2_with fail
               go_roundw
               case rel => exact ⟨6, by omega, by go_num, ⟨Kd.R_mono (Kd.R_far (p := ⟨gb235, 6, none⟩) (Kd.R_types HO2.out C5.out (by decide)) (fun _ hk => hk.2) _) (fun _ _ => trivial)⟩, ⟨blk_far C6.out NB226_235.out _⟩, ⟨blk_put C5.out 6 _ rfl⟩, ⟨blk_far CP.out (by have := hgl.out; show wl.heap.size ≠ gb235; omega) _⟩, ⟨below_set HB2.out GE235.out⟩⟩
               case measure => simp [intOf]
              ·have hp : wr.cell? ⟨wl.heap.size, 6, none⟩ = some (.pointer (some ⟨gb235, 7, none⟩)) := bt BP rfl
               have pq : 0 ≤ (7 : Int) := (by omega)
               have qq : (7 : Int) < (t227.length : Int) := of_decide_eq_true (by first | (with_reducible assumption) | assumption)
               obtain ⟨adq, eq, hxq⟩ := Kd.at_string (Kd.R_reads' HOr.out).2.2 7 pq qq
               obtain rfl : ad233 = adq := (by injection eq)
               (try simp only [show (7 : Int).toNat = 7 from rfl, Nat.reduceMul, Nat.reduceEqDiff, Go.Addr.add, ↓reduceIte] at hxq)
               have qi : (7 < t227.length) = True := eq_true (by omega)
               replace pq := eq_true pq
               replace qq := eq_true qq
               obtain ⟨hat1, hat2⟩ := atoiO_some A26.out
               have hs : wr.cell? ⟨gb235, 7, none⟩ = some (.int .i64 0) := bt B5 rfl
               have hfs := blk_frozen B5.out 7
               go_wp2_with fail
               refine (atoi_calls (rdOf ByteArray.empty t227 7) _ hat1 (HD.out.on HBr.out)).mono ?_
               rintro e wq ⟨ev, rfl, hb⟩
               rw [hat2]
               have HO2 := az (Kd.R_below HOr.out hb)
               have C6 := az (blk_below B6.out hb)
               have C5 := az (blk_below B5.out hb)
               have CP := az (blk_below BP.out hb)
               have HB2 := az (below_step HBr.out hb)
               clear hb
               have hs2 : wq.cell? ⟨gb235, 7, none⟩ = some (.int .i64 0) := bt C5 rfl
               have hfs2 := blk_frozen C5.out 7
               go_wp2_with fail
               go_roundw
               case rel => exact ⟨7, by omega, by go_num, ⟨Kd.R_mono (Kd.R_far (p := ⟨gb235, 7, none⟩) (Kd.R_types HO2.out C5.out (by decide)) (fun _ hk => hk.2) _) (fun _ _ => trivial)⟩, ⟨blk_far C6.out NB226_235.out _⟩, ⟨blk_put C5.out 7 _ rfl⟩, ⟨blk_far CP.out (by have := hgl.out; show wl.heap.size ≠ gb235; omega) _⟩, ⟨below_set HB2.out GE235.out⟩⟩
               case measure => simp [intOf]
              ·have BK226 := B6
               have BK235 : Aside0 (wr.heap[gb235]? = some (.cells #[.int .i64 t234, .int .i64 t237, .int .i64 t239, .int .i64 t241, .int .i64 t243, .int .i64 t245, .int .i64 t247, .int .i64 t249] 37 (0, 0))) := ⟨B5.out⟩
               have HB := HBr
               clear B6 B5 BP HBr HOr
               have hcA_0 : wr.cell? ⟨gb235, 0, none⟩ = some (.int .i64 t234) := bt BK235 rfl
               have hfA_0 := blk_frozen BK235.out 0
               have hcA_1 : wr.cell? ⟨gb235, 1, none⟩ = some (.int .i64 t237) := bt BK235 rfl
               have hfA_1 := blk_frozen BK235.out 1
               have hcA_2 : wr.cell? ⟨gb235, 2, none⟩ = some (.int .i64 t239) := bt BK235 rfl
               have hfA_2 := blk_frozen BK235.out 2
               have hcA_3 : wr.cell? ⟨gb235, 3, none⟩ = some (.int .i64 t241) := bt BK235 rfl
               have hfA_3 := blk_frozen BK235.out 3
               have hcA_4 : wr.cell? ⟨gb235, 4, none⟩ = some (.int .i64 t243) := bt BK235 rfl
               have hfA_4 := blk_frozen BK235.out 4
               have hcA_5 : wr.cell? ⟨gb235, 5, none⟩ = some (.int .i64 t245) := bt BK235 rfl
               have hfA_5 := blk_frozen BK235.out 5
               have hcA_6 : wr.cell? ⟨gb235, 6, none⟩ = some (.int .i64 t247) := bt BK235 rfl
               have hfA_6 := blk_frozen BK235.out 6
               have hcA_7 : wr.cell? ⟨gb235, 7, none⟩ = some (.int .i64 t249) := bt BK235 rfl
               have hfA_7 := blk_frozen BK235.out 7
               go_wp2_with (first | ((with_reducible refine gate_callee (f := 26) rfl ?_); refine goesL_ (some 52) rfl rfl Tryd.func26 (by kernel_rfl) rfl #[.agg #[.int .i64 t234, .int .i64 t237, .int .i64 t239, .int .i64 t241, .int .i64 t243, .int .i64 t245, .int .i64 t247, .int .i64 t249]] rfl (by (try simp only [List.map_toArray, List.map_cons, List.map_nil]); first | done | rfl | (simp only [List.length_drop, List.length_take]; rfl)) ?_; (with_reducible refine (impl_RecOk.calls kj2 t234 t237 t239 t241 t243 t245 t247 t249 false _ A27.out).mono ?_); rintro e w85 ⟨rfl, hb⟩; refine ⟨_, rfl, ?_⟩; replace BK226 := bb BK226 (fun h => by (with_reducible repeat (first | apply bn | apply bd | apply ba)); exact h) hb; replace BK235 := bb BK235 (fun h => by (with_reducible repeat (first | apply bn | apply bd | apply ba)); exact h) hb; replace HB := az (below_step (by repeat (first | (with_reducible first | exact HB.out | apply wa | apply wn | apply wd | refine ws ‹_› ?_) | exact HB.out)) hb); (try clear hb); have hcgb235_0 : w85.cell? ⟨gb235, 0, none⟩ = some (.int .i64 t234) := bt BK235 rfl; have hfgb235_0 := blk_frozen BK235.out 0; have hcgb235_1 : w85.cell? ⟨gb235, 1, none⟩ = some (.int .i64 t237) := bt BK235 rfl; have hfgb235_1 := blk_frozen BK235.out 1; have hcgb235_2 : w85.cell? ⟨gb235, 2, none⟩ = some (.int .i64 t239) := bt BK235 rfl; have hfgb235_2 := blk_frozen BK235.out 2; have hcgb235_3 : w85.cell? ⟨gb235, 3, none⟩ = some (.int .i64 t241) := bt BK235 rfl; have hfgb235_3 := blk_frozen BK235.out 3; have hcgb235_4 : w85.cell? ⟨gb235, 4, none⟩ = some (.int .i64 t243) := bt BK235 rfl; have hfgb235_4 := blk_frozen BK235.out 4; have hcgb235_5 : w85.cell? ⟨gb235, 5, none⟩ = some (.int .i64 t245) := bt BK235 rfl; have hfgb235_5 := blk_frozen BK235.out 5; have hcgb235_6 : w85.cell? ⟨gb235, 6, none⟩ = some (.int .i64 t247) := bt BK235 rfl; have hfgb235_6 := blk_frozen BK235.out 6; have hcgb235_7 : w85.cell? ⟨gb235, 7, none⟩ = some (.int .i64 t249) := bt BK235 rfl; have hfgb235_7 := blk_frozen BK235.out 7; have hcgb226_0 : w85.cell? ⟨gb226, 0, none⟩ = some (.int .i64 0) := bt BK226 rfl; have hfgb226_0 := blk_frozen BK226.out 0; have hcgb226_1 : w85.cell? ⟨gb226, 1, none⟩ = some (.int .i64 0) := bt BK226 rfl; have hfgb226_1 := blk_frozen BK226.out 1; have hcgb226_2 : w85.cell? ⟨gb226, 2, none⟩ = some (.int .i64 0) := bt BK226 rfl; have hfgb226_2 := blk_frozen BK226.out 2; have hcgb226_3 : w85.cell? ⟨gb226, 3, none⟩ = some (.int .i64 0) := bt BK226 rfl; have hfgb226_3 := blk_frozen BK226.out 3; have hcgb226_4 : w85.cell? ⟨gb226, 4, none⟩ = some (.int .i64 0) := bt BK226 rfl; have hfgb226_4 := blk_frozen BK226.out 4; have hcgb226_5 : w85.cell? ⟨gb226, 5, none⟩ = some (.int .i64 0) := bt BK226 rfl; have hfgb226_5 := blk_frozen BK226.out 5; have hcgb226_6 : w85.cell? ⟨gb226, 6, none⟩ = some (.int .i64 0) := bt BK226 rfl; have hfgb226_6 := blk_frozen BK226.out 6; have hcgb226_7 : w85.cell? ⟨gb226, 7, none⟩ = some (.int .i64 0) := bt BK226 rfl; have hfgb226_7 := blk_frozen BK226.out 7))
               refine bodyPost_ret (results_ct rfl _ _ gb226 37 #[.int .i64 0, .int .i64 0, .int .i64 0, .int .i64 0, .int .i64 0, .int .i64 0, .int .i64 0, .int .i64 0] (0, 0) _ rfl (by (with_reducible repeat (first | apply bn | apply bd | apply ba)); exact p8 BK226) Tryd.underlying37 rfl (by kernel_rfl)) rfl ?_
               exact ⟨by first | rfl | (simp [errW_none, errW_some] <;> rfl) | (simp [*, errW_none, errW_some] <;> rfl), by repeat (first | (with_reducible first | exact HB.out | apply wa | apply wn | apply wd | refine ws ‹_› ?_) | exact HB.out)⟩
           ·rw [if_neg c25] at H
            exact absurd H (by simp)
          ·rw [if_neg c23] at H
           exact absurd H (by simp)
         ·rw [if_neg c21] at H
          exact absurd H (by simp)
        ·rw [if_neg c19] at H
         exact absurd H (by simp)
       ·rw [if_neg c17] at H
        exact absurd H (by simp)
      ·rw [if_neg c15] at H
       exact absurd H (by simp)
     ·rw [if_neg c13] at H
      exact absurd H (by simp)
    ·rw [if_neg c11] at H
     exact absurd H (by simp)
end Go.Proofs.YtajdjoggflagdaaDoor.Pr
