import Derived.ArgAppend
import Derived.Test.YtcefiblpnegepaaQBByq
import Derived.Test.YtcefiblpnegepaaQBENew
import Derived.Test.YtcefiblpnegepaaQBPrL71
import Derived.Test.YtcefiblpnegepaaQBL71P
namespace Go.Proofs.Ytcefiblpnegepaa.Pr
open Go.RowKit Go.PW Go.PL Go.PM
attribute [local go_sem] Y3 Y4 YV YW Yk Yl Y5 Y6
set_option linter.unusedVariables false
set_option linter.unusedSimpArgs false
def LS (w : World) (base : Nat) (v : Value) (l : List S41) : Prop := Kd.R k41 41 w base (fun _ => True) v l ∨ ∃ g c ys, Kd.R k41 41 w base (fun _ => True) (.slice (some ⟨g, 0, none⟩) ys.length c) ys ∧ 1 < ys.length ∧ v = .slice (some ⟨g, 8, none⟩) (ys.length - 1) (c - 1) ∧ l = ys.drop 1
theorem Nw {w w' : World} {base g : Nat} {v : Value} {l : List S41} (h : Kd.R k41 41 w base (fun _ => True) v l) (hk : Xl w w' g none) (hg : g < base) : Kd.R k41 41 w' base (fun _ => True) v l :=
  Kd.XN (Kd.Fa (Kd.Zv h) (Mi hk) (fun j hj e_ => by have := hj.2.1; omega)) (fun _ _ => trivial)
theorem LS.keep {w w' : World} {base g : Nat} {v : Value} {l : List S41} (h : LS w base v l) (hk : Xl w w' g none) (hg : g < base) : LS w' base v l := by
  rcases h with h | ⟨g', c, ys, h, r⟩
  · exact .inl (Nw h hk hg)
  · exact .inr ⟨g', c, ys, Nw h hk hg, r⟩
theorem LS.below {w w' : World} {base : Nat} {v : Value} {l : List S41} (h : LS w base v l) (hb : Below w.heap.size w w') : LS w' base v l := by
  rcases h with h | ⟨g', c, ys, h, r⟩
  · exact .inl (Kd.Xz h hb)
  · exact .inr ⟨g', c, ys, Kd.Xz h hb, r⟩
theorem LS.lower {w : World} {base base' : Nat} {v : Value} {l : List S41} (h : LS w base v l) (hb : base' ≤ base) : LS w base' v l := by
  rcases h with h | ⟨g', c, ys, h, r⟩
  · exact .inl (Kd.XT h hb)
  · exact .inr ⟨g', c, ys, Kd.XT h hb, r⟩
theorem LS.reads {w : World} {base : Nat} {v : Value} {l : List S41} (h : LS w base v l) : ∃ A c, v = .slice A l.length c ∧ l.length ≤ c ∧ Kd.C k41 w A l.length l := by
  rcases h with h | ⟨g', c, ys, h, h1, rfl, rfl⟩
  · exact Kd.Nb h
  · have hr := Kd.Xi h
    have hC := Kd.Xpn (m := 1) hr.2.2 (by omega) hr.2.1; rw [if_neg (by omega)] at hC; simp only [Option.map_some, Addr.add_lit] at hC; rw [show 0 + 1 * k41.sz = 8 from rfl] at hC; exact ⟨some ⟨g', 8, none⟩, c - 1, by rw [List.length_drop], by rw [List.length_drop]; omega, hC⟩
def VA.f (k : Nat) (s0 : List Int) (sp : Int) : Option (List S41 × Int) := (Zw.f k s0 sp).bind fun y => (Xb.f k s0 y.2 16).bind fun t => if t.1 = 0 then (if (y.1.length : Int) < 1000 then ((XB.f k s0 t.2).bind fun r => some (y.1 ++ [⟨r.1, r.2.1, r.2.2.1, r.2.2.2.1, r.2.2.2.2.1, r.2.2.2.2.2.1, r.2.2.2.2.2.2.1, r.2.2.2.2.2.2.2.1⟩], r.2.2.2.2.2.2.2.2)) else none) else if t.1 = 1 then (if (y.1.length : Int) > 0 then ((Xb.f k s0 t.2 (y.1.length : Int)).bind fun a => (Xb.f k s0 a.2 4).bind fun b => if 0 ≤ a.1 then (if a.1 < (y.1.length : Int) then some (y.1.set a.1.toNat ⟨(Xa y.1 a.1).f0, (Xa y.1 a.1).f1, (Xa y.1 a.1).f2, (Xa y.1 a.1).f3, (Xa y.1 a.1).f4, (Xa y.1 a.1).f5, b.1, (Xa y.1 a.1).f7⟩, b.2) else none) else none) else some (y.1, t.2)) else if t.1 = 2 then (if (y.1.length : Int) > 1 then some (y.1.drop 1, t.2) else some (y.1, t.2)) else some (y.1, t.2)
set_option maxHeartbeats 8000000 in
set_option maxRecDepth 100000 in
theorem VA.to (k g : Nat) (s0 : List Int) (s1 : Int) (l : List S41) (rp : Int) (w0 w : World) (hI : XA w0 w g s0 s1) (hB : Below w0.heap.size w0 w) (h : VA.f k s0 s1 = some (l, rp)) :
    Calls Try.prog 107 #[.pointer (some ⟨g, 0, none⟩)] w fun e w' => ∃ v : Value, e = .returned v ∧ LS w' w.heap.size v l ∧ XA w0 w' g s0 rp ∧ Below w0.heap.size w0 w' ∧ Xl w w' g none := by
  have hu52 := Try.underlying52; have hu41 := Try.underlying41; have HGW := zz hI.lt; have HI := zz hI; have HB := zz hB; have HZ := zz hB.size
  unfold VA.f at h
  replace h := Option.bind_eq_some_iff.mp h; obtain ⟨⟨y, p1⟩, hy, h⟩ := h; replace h := Option.bind_eq_some_iff.mp h; obtain ⟨⟨t, p2⟩, ht, h⟩ := h; have A1_ := zz hy; have A2_ := zz ht; have H := zz h; clear hI hB hy ht h
  go_enter Try.func107, Try.ntmps107
  go_wp2_with fail
  refine (Zw.to k g s0 s1 y p1 w0 _ HI.out HB.out A1_.out).mono ?_; rintro e w1 ⟨vE, D0, n0, e0, D1, n1, e1, A2, c2, x3, x4, rfl, hR, hI1, hB1, hK1⟩; have RR := zz hR; have IR := zz hI1; have LR := zz hB1; have KR := zz hK1; clear hR hI1 hB1 hK1 HI HB
  go_wp2_with fail
  have I1 := zz (IR.out.alloc (.cells #[.slice D0 n0 e0, .slice D1 n1 e1, .slice A2 y.length c2, .int .i64 x3, .bool x4] 52)); have LB1 := zz (Xd LR.out (.cells #[.slice D0 n0 e0, .slice D1 n1 e1, .slice A2 y.length c2, .int .i64 x3, .bool x4] 52)); have KB1 := zz (DY KR.out (.cells #[.slice D0 n0 e0, .slice D1 n1 e1, .slice A2 y.length c2, .int .i64 x3, .bool x4] 52)); have RL1 := zz (Kd.XI RR.out (.cells #[.slice D0 n0 e0, .slice D1 n1 e1, .slice A2 y.length c2, .int .i64 x3, .bool x4] 52)); clear IR LR KR RR; refine (Xb.calls k g s0 p1 16 t p2 w0 _ I1.out LB1.out A2_.out).mono ?_; rintro e w2 ⟨rfl, hI, hB, hK⟩; have I2 := zz hI; have LB2 := zz hB; have KB2 := zz (KB1.out.trans hK (.inl rfl)); have RL2 := zz (Nw RL1.out hK HGW.out); clear hI hB hK I1 LB1 KB1 RL1; have h := H.out; clear H
  by_cases q0 : t = 0
  · rw [if_pos q0] at h
    subst q0
    by_cases qn : (y.length : Int) < 1000
    rotate_left
    · rw [if_neg qn] at h
      exact absurd h (by simp)
    rw [if_pos qn] at h; have QN := zz qn; replace h := Option.bind_eq_some_iff.mp h; obtain ⟨⟨b1, b2, b3, b4, b5, b6, b7, b8, b9⟩, hb, h⟩ := h; have A3_ := zz hb; simp only [Option.some.injEq, Prod.mk.injEq] at h; obtain ⟨rfl, rfl⟩ := h; clear qn hb
    go_wp2_with fail
    refine (XB.calls k g s0 p2 b1 b2 b3 b4 b5 b6 b7 b8 b9 w0 _ I2.out LB2.out A3_.out).mono ?_; rintro e w3 ⟨rfl, hI, hB, hK⟩; have I3 := zz hI; have LB3 := zz hB; have KB3 := zz (KB2.out.trans hK (.inl rfl)); have RL3 := zz (Nw RL2.out hK HGW.out); clear hI hB hK I2 LB2 KB2 RL2
    go_wp2_with (first | ((with_reducible refine XZ (N := 20) rfl ?_); refine Kd.Gb k41 (w0 := w3) _ 41 ?hg (N := 20) ?hd (xs := ([(⟨b1, b2, b3, b4, b5, b6, b7, b8⟩ : S41)] : List S41)) (inner := [.int .i64 b1, .int .i64 b2, .int .i64 b3, .int .i64 b4, .int .i64 b5, .int .i64 b6, .int .i64 b7, .int .i64 b8]) (ok := fun _ => True) (okp := fun _ => True) ?hr ?hp (fun _ hk => hk) trivial (Below.refl w3.heap.size w3) (Nat.le_refl _) (by simp) ?_; (case hd => rfl); (case hg => rfl); (case hr => exact zb21); (case hp => exact (Zm.c8 (WE _ _ _ (⟨b1, b2, b3, b4, b5, b6, b7, b8⟩ : S41)) (Zm.none _ _))); intro v21 w4 ho hb hg hat; obtain ⟨AN, cN, eN, _, hCN⟩ := Kd.Nb ho; subst eN; have NC := zz hCN; have I4 := zz (I3.out.below hb); have LB4 := zz (Xe LB3.out hb); have KB4 := zz (VL KB3.out (Kept.of_below hb (fun _ => False)) (fun _ h_ => h_.elim)); have RL4 := zz (Kd.Xz RL3.out hb); clear ho hb hg hat hCN I3 LB3 KB3 RL3) | ((with_reducible refine Zk (b := .append) (xs := #[.tmp 17, .tmp 20]) rfl ?_); at_builtin; refine Kd.Ve k41 (w0 := w0) w0.heap.size rfl (.tmp 17) (.tmp 20) 34 41 (.agg #[(.int .i64 0), (.int .i64 0), (.int .i64 0), (.int .i64 0), (.int .i64 0), (.int .i64 0), (.int .i64 0), (.int .i64 0)]) 64 rfl Try.underlying34 FP rfl (by decide) (by omega) (.slice A2 y.length c2) y [⟨b1, b2, b3, b4, b5, b6, b7, b8⟩] _ _ _ (fun j => w.heap.size ≤ j) (fun _ => False) rfl rfl ?aO ?aR (fun _ _ h => h) (fun _ h => h.elim) ?aF ?aB ?aS ?aL ?_; (case aR => exact NC.out); (case aB => exact LB4.out); (case aF => exact (fun _ hk => Nat.le_trans KB4.out.1 hk)); (case aO => exact Kd.XN (Kd.XT (Kd.Zv RL4.out) HZ.out) (fun _ hk => hk.2.1)); (case aS => exact LB4.out.size); (case aL => have := QN.out; simp only [List.length_cons, List.length_nil]; omega); intro v22 w5 ho hb hg hat; have hbs := ho.1; have hown := Kd.YR RL4.out; have R5 : Aside0 (Kd.R k41 41 w5 w.heap.size (fun _ => True) v22 (y ++ [⟨b1, b2, b3, b4, b5, b6, b7, b8⟩])) := zz (Kd.XN (Kd.Xk1 (b := w0.heap.size) (b' := w.heap.size) (fun _ _ _ _ h => h) (Kd.Ul rfl ho) hbs) (fun _ _ => trivial)); have hk5 : Kept w4 w5 (fun j => w.heap.size ≤ j) := Kept.U1 hg (Kept.refl w4 _) (fun k_ e_ => .inl (hown k_ e_)); have I5 := zz (I4.out.kept hk5 (fun h_ => (by have h2_ := HGW.out; omega))); have LB5 := zz hb; have KB5 := zz (VL KB4.out hk5 (fun _ h_ => h_)); clear ho hb hg hat hbs hown hk5))
    refine bodyPost_ret (v := v22) zb120 rfl ⟨_, rfl, .inl R5.out, I5.out, LB5.out, KB5.out⟩
  rw [if_neg q0] at h; have q0b : (t == 0) = false := beq_eq_false_iff_ne.mpr q0
  by_cases q1 : t = 1
  · rw [if_pos q1] at h
    subst q1; clear q0 q0b
    by_cases qn : (y.length : Int) > 0
    · rw [if_pos qn] at h
      have qnb : decide (0 < (y.length : Int)) = true := decide_eq_true qn; have qnc := eq_true (show 0 < y.length by omega); replace h := Option.bind_eq_some_iff.mp h; obtain ⟨⟨a_, p3⟩, ha, h⟩ := h; replace h := Option.bind_eq_some_iff.mp h; obtain ⟨⟨b_, p4⟩, hb, h⟩ := h; have A3_ := zz ha; have A4_ := zz hb; simp only at h
      by_cases q3 : 0 ≤ a_
      rotate_left
      · rw [if_neg q3] at h
        exact absurd h (by simp)
      rw [if_pos q3] at h
      by_cases q4 : a_ < (y.length : Int)
      rotate_left
      · rw [if_neg q4] at h
        exact absurd h (by simp)
      rw [if_pos q4] at h; simp only [Option.some.injEq, Prod.mk.injEq] at h; obtain ⟨rfl, rfl⟩ := h; have p0 := eq_true q3; have p1_ := eq_true q4; have Q3 := zz q3; have Q4 := zz q4; have QN := zz qn; clear ha hb qn q3 q4
      go_wp2_with fail
      refine (Xb.calls k g s0 p2 (y.length : Int) a_ p3 w0 _ I2.out LB2.out A3_.out).mono ?_; rintro e w3 ⟨rfl, hI, hB, hK⟩; have I3 := zz hI; have LB3 := zz hB; have KB3 := zz (KB2.out.trans hK (.inl rfl)); have RL3 := zz (Nw RL2.out hK HGW.out); clear hI hB hK I2 LB2 KB2 RL2
      go_wp2_with fail
      refine (Xb.calls k g s0 p3 4 b_ p4 w0 _ I3.out LB3.out A4_.out).mono ?_; rintro e w4 ⟨rfl, hI, hB, hK⟩; have I4 := zz hI; have LB4 := zz hB; have KB4 := zz (KB3.out.trans hK (.inl rfl)); have RL4 := zz (Nw RL3.out hK HGW.out); clear hI hB hK I3 LB3 KB3 RL3; obtain ⟨gm, cm_, em, hgmb, hgml, hgmt⟩ := Kd.Nv RL4.out (by have := QN.out; omega)
      injection em with em1 em2 em3
      subst em1 em3; clear em2 hgmt; obtain ⟨ce, hcl, hM, hcc, hfr⟩ := Kd.FO RL4.out z41 a_ Q3.out Q4.out; obtain rfl := XdN hM; have hx6 : w4.cell? ⟨gm, (a_ : Int).toNat * 8 + 6, none⟩ = some (.int .i64 (Xa y a_).f6) := hcc 6 _ rfl; have hf6 : w4.frozen? ⟨gm, (a_ : Int).toNat * 8 + 6, none⟩ = false := hfr 6; have HP := Kd.Xax RL4.out a_ Q3.out Q4.out (seg := [.int .i64 b_]) (j := 6) (okp := fun _ => False) hcl hcc (show 6 + 1 ≤ 8 from by decide) (x' := (⟨(Xa y a_).f0, (Xa y a_).f1, (Xa y a_).f2, (Xa y a_).f3, (Xa y a_).f4, (Xa y a_).f5, b_, (Xa y a_).f7⟩ : S41)) (WE _ _ _ (⟨(Xa y a_).f0, (Xa y a_).f1, (Xa y a_).f2, (Xa y a_).f3, (Xa y a_).f4, (Xa y a_).f5, b_, (Xa y a_).f7⟩ : S41)) (fun j hj => hj.elim); have HQ := zz HP.1; clear hcl hM hcc hfr HP
      go_wp2
      have hgw := HGW.out; have hk5 : Kept w4 (w4.setCell ⟨gm, (a_ : Int).toNat * 8 + 6, none⟩ (.int .i64 b_)) (fun j => j = gm) := (Kept.refl w4 (fun j => j = gm)).setCell (p := ⟨gm, (a_ : Int).toNat * 8 + 6, none⟩) (.inl rfl) _; have hz := HZ.out; refine bodyPost_ret (v := .slice (some ⟨gm, 0, none⟩) y.length c2) zb120 rfl ⟨_, rfl, .inl HQ.out, I4.out.kept hk5 (by omega), Xc LB4.out (by omega), VL KB4.out hk5 (fun j hj => by omega)⟩
    · rw [if_neg qn] at h
      have qnb : decide (0 < (y.length : Int)) = false := decide_eq_false qn; have qnc := eq_false (show ¬ 0 < y.length by omega); clear qn; simp only [Option.some.injEq, Prod.mk.injEq] at h; obtain ⟨rfl, rfl⟩ := h
      go_wp2
      refine bodyPost_ret (v := .slice A2 y.length c2) zb120 rfl ⟨_, rfl, .inl RL2.out, I2.out, LB2.out, KB2.out⟩
  rw [if_neg q1] at h; have q1b : (t == 1) = false := beq_eq_false_iff_ne.mpr q1
  by_cases q2 : t = 2
  · rw [if_pos q2] at h
    subst q2; clear q0 q0b q1 q1b
    by_cases qn : (y.length : Int) > 1
    · rw [if_pos qn] at h
      have qnb : decide (1 < (y.length : Int)) = true := decide_eq_true qn; have qnc := eq_true (show 1 < y.length by omega); have qnd := eq_false (show ¬ (y.length : Int) < 1 by omega); have qne := eq_true (show 1 ≤ (y.length : Int) by omega); simp only [Option.some.injEq, Prod.mk.injEq] at h; obtain ⟨rfl, rfl⟩ := h; obtain ⟨gm, cm_, em, hgmb, hgml, hgmt⟩ := Kd.Nv RL2.out (by omega)
      injection em with em1 em2 em3
      subst em1 em3; have hc2 := (Kd.Xi RL2.out).2.1; have pa := eq_true (show 1 ≤ y.length by omega); have pb := eq_true (show y.length ≤ c2 by omega); have pc := eq_true (show 1 ≤ c2 by omega); have pd := eq_false (show ¬ c2 = 1 by omega); have pe : (c2 == 1) = false := beq_eq_false_iff_ne.mpr (by omega); have QN := zz qn; clear em2 hgmt qn hc2
      go_wp2
      refine bodyPost_ret (v := .slice (some ⟨gm, 8, none⟩) (y.length - 1) (c2 - 1)) zb120 rfl ⟨_, rfl, .inr ⟨gm, c2, y, RL2.out, by have := QN.out; omega, rfl, rfl⟩, I2.out, LB2.out, KB2.out⟩
    · rw [if_neg qn] at h
      have qnb : decide (1 < (y.length : Int)) = false := decide_eq_false qn; have qnc := eq_false (show ¬ 1 < y.length by omega); clear qn; simp only [Option.some.injEq, Prod.mk.injEq] at h; obtain ⟨rfl, rfl⟩ := h
      go_wp2
      refine bodyPost_ret (v := .slice A2 y.length c2) zb120 rfl ⟨_, rfl, .inl RL2.out, I2.out, LB2.out, KB2.out⟩
  rw [if_neg q2] at h; have q2b : (t == 2) = false := beq_eq_false_iff_ne.mpr q2; clear q0 q1 q2; simp only [Option.some.injEq, Prod.mk.injEq] at h; obtain ⟨rfl, rfl⟩ := h
  go_wp2
  refine bodyPost_ret (v := .slice A2 y.length c2) zb120 rfl ⟨_, rfl, .inl RL2.out, I2.out, LB2.out, KB2.out⟩
end Go.Proofs.Ytcefiblpnegepaa.Pr
