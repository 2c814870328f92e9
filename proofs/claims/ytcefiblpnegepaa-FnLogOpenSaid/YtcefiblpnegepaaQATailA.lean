import Derived.ArgAppend
import Derived.Test.YtcefiblpnegepaaQAENew
namespace Go.Proofs.Ytcefiblpnegepaa.Pr
open Go.RowKit Go.PW Go.PL Go.PM
set_option linter.unusedVariables false
section
variable {P : Program} {α : Type}
theorem XeL {w : World} {base e size n g c : Nat} {xs : List Value} (h : w.ownsRow base e size (.slice (some ⟨g, 0, none⟩) n c) n xs) : ∃ cur, w.heap[g]? = some (.cells cur e (0, 0)) ∧ cur.size = c * size ∧ cur.toList.take (n * size) = xs ∧ n ≤ c ∧ c ≤ maxLen ∧ base ≤ g := by
  rcases h.2 with ⟨h1, _⟩ | ⟨g', cap, cur, h1, h2, h3, h4, h5, h6, h7⟩
  · cases h1
  · cases h1
    exact ⟨cur, h3, h6, h7, h4, h5, h2⟩
theorem XhL (d : Kd α) (hKM : ∀ (w w' : World) (b : Nat) (o : Nat → Prop) (x : α) (cs : List Value), d.K w x cs → d.M w' b o x cs) {W : World} (base : Nat) (t ty e : TypeId) (z : Value) (bytes : Nat)
    (ht : P.underlying t = some (.slice e)) (hinfo : (P.info? e).map (fun i => (i.zero, i.size, i.bytes)) = some (some z, d.sz, bytes)) (hz : z.cells.size = d.sz) (hs0 : 0 < d.sz) (hb0 : 0 < bytes)
    (g c m : Nat) (xs ys : List α) (A : Addr) (n cx : Nat) (ok : Nat → Prop) (HO : d.R e W base ok (.slice (some ⟨g, 0, none⟩) xs.length c) xs) (hm : m < xs.length) (HR : d.C W (some A) n ys) (hbase : base ≤ W.heap.size) (hl : (xs.length + n) * bytes ≤ 140737488355328) :
    ∃ v1 w1, (Builtin.append_ #[t, t] ty #[.slice (some ⟨g, m * d.sz, none⟩) (xs.length - m) (c - m), .slice (some A) n cx]).run P W = .ok v1 w1 ∧ d.Q e w1 base (fun _ => True) v1 (xs.drop m ++ ys) ∧ W.grownBy w1 (some g) := by
  obtain ⟨i0, hi, hzz⟩ := Option.map_eq_some_iff.1 hinfo; simp only [Prod.mk.injEq] at hzz; obtain ⟨hz0, hz1, hz2⟩ := hzz; have hn : ys.length = n := HR.1; have hlen : xs.length + n ≤ 140737488355328 := Nat.le_trans (Nat.le_mul_of_pos_right _ hb0) hl
  have hld : (xs.drop m ++ ys).length = xs.length - m + n := by rw [List.length_append, List.length_drop, hn]
  have hR0 := Kd.Xk HO; have hCt := Kd.XbS hR0.2.2 (Nat.le_of_lt hm) hR0.2.1; obtain ⟨hok, inner, hown, hr⟩ := HO; obtain ⟨cur, hblk, hcs, htk, hxc, hcm, hbg⟩ := XeL hown; obtain ⟨news, hnr, hnc⟩ := JG.Xab HR
  have hnl : news.length = n * d.sz := by rw [hnr.1, hn]
  have hone : ∀ u ∈ news, u.oneCell' = true := Kd.XhM hnr hs0 (fun p c h => d.K_one h)
  have hadd : ∀ j, (⟨g, m * d.sz, none⟩ : Addr).add j = ⟨g, m * d.sz + j, none⟩ := fun j => Addr.add_lit _ _ _
  have hcm1 : (if c = m then some (⟨g, 0, none⟩ : Addr) else (some (⟨g, 0, none⟩ : Addr)).map (·.add (m * d.sz))) = some ⟨g, m * d.sz, none⟩ := by
    rw [if_neg (by omega)]
    simp [Addr.add_lit]
  rw [hcm1] at hCt
  by_cases hroom : xs.length + n ≤ c
  · have hsz : xs.length * d.sz + news.length ≤ cur.size := by rw [hnl, hcs, ← Nat.add_mul]; exact Nat.mul_le_mul_right _ hroom
    have hc : ∀ j, j < news.length → (W.cell? ⟨g, xs.length * d.sz + j, none⟩).isSome = true := fun j hj => by
      rw [cell_of_row W g _ cur e (0, 0) hblk]
      simp
      omega
    have hf : ∀ j, j < news.length → W.frozen? ⟨g, xs.length * d.sz + j, none⟩ = false := fun j hj => Xf hblk _
    have r1 := run_append_room_cells (P := P) W t ty e i0 ht hi g 0 xs.length c A n cx news (by rw [hnl, hz1]) hnc hone hroom (fun j hj => by rw [hz1, Nat.zero_add]; exact hc j hj) (fun j hj => by rw [hz1, Nat.zero_add]; exact hf j hj)
    have he : m * d.sz + (xs.length - m) * d.sz = xs.length * d.sz := by rw [← Nat.add_mul]; congr 1; omega
    have r2 := run_append_room_cells (P := P) W t ty e i0 ht hi g (m * d.sz) (xs.length - m) (c - m) A n cx news (by rw [hnl, hz1]) hnc hone (by omega) (fun j hj => by rw [hz1, he]; exact hc j hj) (fun j hj => by rw [hz1, he]; exact hf j hj); obtain ⟨v1, w1, hrun, h2, hg, _, hat⟩ := run_append_own_at (P := P) W base t ty e i0 z d.sz bytes ht hi hz0 hz1 hz2 hz hs0 _ xs.length inner hown A n cx news hnl hnc hone (by simp only [maxLen]; omega) hl hbase; rw [r1] at hrun
    injection hrun with e1 e2
    subst e1; rw [hz1, Nat.zero_add] at e2; rw [hz1, he, e2] at r2
    have HN : d.R e w1 base (fun _ => True) (.slice (some ⟨g, 0, none⟩) (xs.length + n) c) (xs ++ ys) := ⟨fun _ _ => trivial, inner ++ news, by rw [List.length_append, hn]; exact h2, Kd.MZ (hr.Gx (fun p c h => hKM _ _ _ _ _ _ (d.K_of_M h))) (hnr.Gx (fun p c h => hKM _ _ _ _ _ _ h))⟩
    have hD := Kd.XgZ (k := m) (Kd.Td HN) (by rw [List.length_append]; omega); rw [hcm1, List.drop_append_of_le_length (Nat.le_of_lt hm)] at hD; refine ⟨_, w1, r2, ?_, hg⟩; rw [show xs.length + n - m = xs.length - m + n by omega] at hD; exact hD
  · obtain ⟨olds, hor, hoc⟩ := JG.Xab hCt
    have hol : olds.length = (xs.length - m) * d.sz := by rw [hor.1, List.length_drop]
    obtain ⟨v', w', hrun, h2, hg⟩ := run_append_arg_grows (P := P) W t ty e i0 z d.sz bytes ht hi hz0 hz1 hz2 hz hs0 ⟨g, m * d.sz, none⟩ (xs.length - m) (c - m) olds hol hoc A n cx news hnl hnc (by omega) (by simp only [maxLen]; omega) (Nat.le_trans (Nat.mul_le_mul_right _ (by omega)) hl)
    have HN : d.R e w' W.heap.size (fun _ => True) v' (xs.drop m ++ ys) := ⟨fun _ _ => trivial, olds ++ news, by rw [hld]; exact h2, Kd.MZ (hor.Gx (fun p c h => hKM _ _ _ _ _ _ h)) (hnr.Gx (fun p c h => hKM _ _ _ _ _ _ h))⟩
    exact ⟨v', w', hrun, Kd.Td (Kd.Ye HN hbase), ⟨hg.1, hg.2, hg.3, hg.size, fun k hk _ => hg.block k hk (by simp)⟩⟩
end
section
variable {P : Program} {ops : Array Oper} {rest : List Oper} {o : Oper} {a : Act} {Q : Exit → Act → World → Prop} {α : Type}
theorem XaQ (d : Kd α) (hKM : ∀ (w w' : World) (b : Nat) (o : Nat → Prop) (x : α) (cs : List Value), d.K w x cs → d.M w' b o x cs) {w0 W : World} (base : Nat) (hgd : o.guard = none) (s x : Operand) (t e : TypeId) (z : Value) (bytes : Nat)
    (ho : o.op = .call { callee := .builtin .append, args := #[s, x], argTypes := #[t, t] })
    (ht : P.underlying t = some (.slice e)) (hinfo : (P.info? e).map (fun i => (i.zero, i.size, i.bytes)) = some (some z, d.sz, bytes)) (hz : z.cells.size = d.sz) (hs0 : 0 < d.sz) (hb0 : 0 < bytes)
    (g c m : Nat) (xs ys : List α) (A : Addr) (n cx : Nat) (ok : Nat → Prop) (hs : a.eval s = .slice (some ⟨g, m * d.sz, none⟩) (xs.length - m) (c - m)) (hx : a.eval x = .slice (some A) n cx)
    (HO : d.R e W base ok (.slice (some ⟨g, 0, none⟩) xs.length c) xs) (hm : m < xs.length) (HR : d.C W (some A) n ys) (HB : Below base w0 W) (hbase : base ≤ W.heap.size) (hl : (xs.length + n) * bytes ≤ 140737488355328)
    (h : ∀ v1 w1, d.Q e w1 base (fun _ => True) v1 (xs.drop m ++ ys) → Below base w0 w1 → W.grownBy w1 (some g) → wpList P ops Q rest (a.put o.dst v1) w1) : wpList P ops Q (o :: rest) a W := by
  have hbg : base ≤ g := Kd.ZH HO g rfl; obtain ⟨v1, w1, hr1, hC, hg⟩ := XhL (P := P) d hKM base t o.type e z bytes ht hinfo hz hs0 hb0 g c m xs ys A n cx ok HO hm HR hbase hl
  refine wpList_plain hgd fun K hK' => ?_
  unfold Oper.wp execOp
  simp only [ho, resolve, invoke, builtin, Sem.run_bind, Sem.run_pure, Result.andThen_ok, List.map_toArray, List.map_cons, List.map_nil, hs, hx, hr1]; exact hK' _ _ (h v1 w1 hC (HB.grown hg hbase (fun k hk => by injection hk with hk; omega)) hg)
end
end Go.Proofs.Ytcefiblpnegepaa.Pr
