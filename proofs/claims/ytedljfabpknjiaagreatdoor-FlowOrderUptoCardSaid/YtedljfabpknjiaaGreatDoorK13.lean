/- Texts of this proof, joined: AbsFH, AbsFJ. -/
import Derived.Test.YtedljfabpknjiaaGreatDoorK12
import Derived.Test.YtedljfabpknjiaaGreatDoorK10
import Derived.Test.YtedljfabpknjiaaGreatDoorK11
import Derived.Test.YtedljfabpknjiaaGreatDoorK1
import Derived.WalkKit
import Derived.ProofKit
import Derived.OpenShut
import Derived.Deep.DeepWitnessRowRef
section
namespace Go.Abs
open Go Go.Proofs
attribute [local irreducible] aCall AWp Sub Spec
section
variable {t : Nat → TypeId} {u : Nat → Value}
theorem codedO (hE : ErrsOk t u) (k : Nat) (hk : k ≤ 7) (c : Int) : Spec Tryz.prog (GV t u) 25 [.d (.s (.iface (t k) (u k))), .d (num c)] [] (.ret (.d (.s (.bool (((posOf k + 1 : Int) == c) && ((-1 : Int) == -1)))))) [] := by
  refine spec_of_awp2 TT_ok (N := 19) Tryz.func25 rfl (by rfl) (Nat.le_refl _) rfl ?_
  refine awp_seq ?_; refine rgn fun pan K hp hK => ?_; refine hK _ ?_; clear hK hp K pan; refine awp_norm [0, 1] rfl rfl ?_; refine awp_seq ?_; refine rgn fun pan K hp hK => ?_; show aCall _ _ _ _ _ _ _
  refine aCall_ret (L := []) rfl rfl rfl (code_err hE k hk) rfl rfl rfl rfl ?_
  refine hK _ ?_; clear hK hp K pan; refine awp_norm [1, 5, 6] rfl rfl ?_; refine awp_seq ?_; refine rgn fun pan K hp hK => ?_
  refine onB_intro (fun h1 => ?_) (fun h1 => ?_)
  · refine hK _ ?_; clear hK hp K pan; refine awp_norm [4] rfl rfl ?_; refine awp_ret ?_
    exact ⟨_, [], _, [.d (.s (.bool _))], rfl, rfl, rfl, rfl, rfl, by (first | exact PWs.refl _ | (simp only [h1, Bool.true_and]; exact PWs.refl _)), rfl⟩
  refine hK _ ?_; clear hK hp K pan; refine awp_norm [4] rfl rfl ?_; refine awp_ret ?_
  exact ⟨_, [], _, [.d (.s (.bool _))], rfl, rfl, rfl, rfl, rfl, by (first | exact PWs.refl _ | (simp only [h1, Bool.false_and]; exact PWs.refl _)), rfl⟩
variable (vars : List ByteArray) (arrays : List Ar) (points : Int) (edges : List Ed) (heads : List Int)
theorem order_big (hw : wtG ⟨vars, arrays, points, edges, heads⟩ ≤ 400000000) (hbig : 200 < edges.length ∨ 200 < heads.length ∨ 200 < points) : Spec Tryz.prog (GV t u) 6 [.d (.agg (Gr.cs ⟨vars, arrays, points, edges, heads⟩))] [] (.ret (.d (.s (.bool true)))) [] := by
  have z0 := hw
  refine spec_of_awp2 TT_ok (N := 134) Tryz.func6 rfl (by rfl) (Nat.le_refl _) rfl ?_
  refine awp_seq ?_; refine rgn fun pan K hp hK => ?_; refine hK _ ?_; clear hK hp K pan; refine awp_norm [1] rfl rfl ?_; refine awp_seq ?_; refine rgn fun pan K hp hK => ?_; show aCall _ _ _ _ _ _ _
  refine aCall_ret (L := []) rfl rfl rfl (one_true t u) rfl rfl rfl rfl ?_
  refine hK _ ?_; clear hK hp K pan; refine awp_norm [1, 3] rfl rfl ?_; refine awp_seq ?_; refine awp_seq ?_; refine rgn fun pan K hp hK => ?_
  refine onB_intro (fun h1 => ?_) (fun h1 => ?_)
  · refine hK _ ?_; clear hK hp K pan; refine awp_norm [1, 3, 28] rfl rfl ?_; refine awp_cond rfl ?_; refine awp_seq ?_; refine rgn fun pan K hp hK => ?_; refine hK _ ?_; clear hK hp K pan; refine awp_norm [2] rfl rfl ?_; refine awp_ret ?_
    exact ⟨_, [], _, [.d (.s (.bool true))], rfl, rfl, rfl, rfl, rfl, by (first | exact PWs.refl _ | (simp; exact PWs.refl _)), rfl⟩
  refine onB_intro (fun h2 => ?_) (fun h2 => ?_)
  · refine hK _ ?_; clear hK hp K pan; refine awp_norm [1, 3, 28] rfl rfl ?_; refine awp_cond rfl ?_; refine awp_seq ?_; refine rgn fun pan K hp hK => ?_; refine hK _ ?_; clear hK hp K pan; refine awp_norm [2] rfl rfl ?_; refine awp_ret ?_
    exact ⟨_, [], _, [.d (.s (.bool true))], rfl, rfl, rfl, rfl, rfl, by (first | exact PWs.refl _ | (simp; exact PWs.refl _)), rfl⟩
  refine hK _ ?_; clear hK hp K pan; refine awp_norm [1, 3, 28] rfl rfl ?_
  refine awp_cond2 rfl (onB_intro (fun h3 => ?_) (fun h3 => ?_))
  · refine awp_seq ?_; refine rgn fun pan K hp hK => ?_; refine hK _ ?_; clear hK hp K pan; refine awp_norm [2] rfl rfl ?_; refine awp_ret ?_
    exact ⟨_, [], _, [.d (.s (.bool true))], rfl, rfl, rfl, rfl, rfl, by (first | exact PWs.refl _ | (simp; exact PWs.refl _)), rfl⟩
  have q1 := of_decide_eq_false h1
  have q2 := of_decide_eq_false h2
  have q3 := of_decide_eq_false h3
  rw [eds_len] at q1
  rw [nums_len] at q2
  (try simp only at q1 q2 q3)
  omega
def p6_8 : Plan := (.take 0 (.take 1 (.take 2 (.load 3 (.take 4 (.take 5 (.take 6 (.load 7 (.take 8 (.take 9 (.take 10 (.take 11 (.load 12 (.take 13 (.take 14 (.take 15 (.load 16 (.take 17 (.take 18 (.take 19 (.take 20 (.load 21 (.take 22 (.take 23 (.take 24 (.load 25 (.take 26 (.load 27 (.take 28 (.take 29 (.take 30 (.take 31 (.load 32 (.take 33 (.take 34 (.take 35 (.load 36 (.take 37 (.load 38 (.take 39 (.take 40 (.take 41 .done))))))))))))))))))))))))))))))))))))))))))
def p6_12 : Plan := (.take 0 (.take 1 (.take 2 (.load 3 (.take 4 (.take 5 (.load 6 (.take 7 (.take 8 (.take 9 (.take 10 (.load 11 (.take 12 (.take 13 (.load 14 (.take 15 (.load 16 (.take 17 (.take 18 (.take 19 .done))))))))))))))))))))
theorem order_law_bad (hE : ErrsOk t u) (hw : wtG ⟨vars, arrays, points, edges, heads⟩ ≤ 400000000) (h1 : edges.length ≤ 200) (h2 : heads.length ≤ 200) (h3 : points ≤ 200) (bE bH : Bool) (hE1 : ((decide (points < 0) || decide (points > 120)) || badE points edges) = bE) (hH1 : (bE || badH points heads) = bH) (hbad : bH = true) : Spec Tryz.prog (GV t u) 6 [.d (.agg (Gr.cs ⟨vars, arrays, points, edges, heads⟩))] [] (.ret (.d (.s (.bool true)))) [] := by
  have hb1' : edges.length ≤ 1073741824 := by omega
  have hb2' : heads.length ≤ 1073741824 := by omega
  have so := order_bad (t := t) (u := u) vars arrays points edges heads h1 h2 (badE points edges) (badH points heads) rfl rfl (by rw [← hbad, ← hH1, ← hE1]; simp only [Bool.or_assoc])
  have sc : Spec Tryz.prog (GV t u) 25 [.d (.s (.iface (t 1) (u 1))), .d (num 3)] [] (.ret (.d (.s (.bool true)))) [] := codedO hE 1 (by decide) 3
  refine spec_of_awp2 TT_ok (N := 134) Tryz.func6 rfl (by rfl) (Nat.le_refl _) rfl ?_
  refine awp_seq ?_; refine rgn fun pan K hp hK => ?_; refine hK _ ?_; clear hK hp K pan; refine awp_norm [1] rfl rfl ?_; refine awp_seq ?_; refine rgn fun pan K hp hK => ?_; show aCall _ _ _ _ _ _ _
  refine aCall_ret (L := []) rfl rfl rfl (one_true t u) rfl rfl rfl rfl ?_
  refine hK _ ?_; clear hK hp K pan; refine awp_norm [1, 3] rfl rfl ?_; refine awp_seq ?_; refine awp_seq ?_; refine rgn fun pan K hp hK => ?_
  refine onB_intro (fun h1 => ?_) (fun h1 => ?_)
  · have q1 := of_decide_eq_true h1
    (try simp only [eds_len] at q1)
    omega
  refine onB_intro (fun h2 => ?_) (fun h2 => ?_)
  · have q1 := of_decide_eq_true h2
    (try simp only [nums_len] at q1)
    omega
  refine hK _ ?_; clear hK hp K pan; refine awp_norm [1, 3, 28] rfl rfl ?_
  refine awp_cond2 rfl (onB_intro (fun h3 => ?_) (fun h3 => ?_))
  · have q1 := of_decide_eq_true h3
    (try simp only [eds_len] at q1)
    omega
  refine awp_skip ?_
  refine awp_cut (fun Z => Z = ⟨[(1, .box 0 0), (4, .d (.s (.bool (decide (points < 0) || decide (points > 120)))))], [.box 58 [.d (.sl 1 (strs vars)), .d (.sl 2 (ars arrays)), .d (num points), .d (.sl 6 (eds edges)), .d (.sl 1 (nums heads))]]⟩) ?_ ?_
  · refine rgn fun pan K hp hK => ?_
    refine onB_intro (fun h4 => ?_) (fun h4 => ?_)
    · refine hK _ ?_; clear hK hp K pan
      have hq' : decide (points < 0) = true := h4
      have e : (decide (points < 0) || decide (points > 120)) = true := by rw [hq']; rfl
      exact ⟨_, sub_norm (slots := [1, 4]) rfl rfl, by rw [e]; rfl⟩
    refine hK _ ?_; clear hK hp K pan
    have hq' : decide (points < 0) = false := h4
    have e : (decide (points < 0) || decide (points > 120)) = decide (points > 120) := by rw [hq']; rfl
    exact ⟨_, sub_norm (slots := [1, 4]) rfl rfl, by rw [e]; rfl⟩
  rintro Z rfl
  refine awp_seq ?_; refine awp_seq ?_; refine rgn fun pan K hp hK => ?_; refine hK _ ?_; clear hK hp K pan; refine awp_norm [1, 4, 5] rfl rfl ?_; refine awp_block ?_
  refine awp_loop (fun k Y => ∃ (d1 e1 : List Ed) (b : Bool), k = e1.length ∧ edges = d1 ++ e1 ∧ (b || badE points e1) = bE ∧ Y = ⟨[(1, .box 0 0), (4, .d (.s (.bool b))), (5, .d (num d1.length))], [.box 58 [.d (.sl 1 (strs vars)), .d (.sl 2 (ars arrays)), .d (num points), .d (.sl 6 (eds edges)), .d (.sl 1 (nums heads))]]⟩) (edges.length) (⟨[], edges, _, rfl, rfl, hE1, rfl⟩) ?_
  clear hE1
  rintro k Y ⟨d1, e1, b, rfl, hl1, hE1, rfl⟩
  have hll1 : (eds edges).length = d1.length + e1.length := by rw [eds_len, hl1, List.length_append]
  have hdl1 : d1.length + e1.length ≤ 1073741824 := by rw [hl1, List.length_append] at hb1'; exact hb1'
  refine awp_seq ?_; refine awp_seq ?_; refine rgn fun pan K hp hK => ?_; refine hK _ ?_; clear hK hp K pan; refine awp_norm [1, 4, 5, 42] rfl rfl ?_
  refine awp_cond2 rfl (onB_intro (fun h4 => ?_) (fun h4 => ?_))
  · have h4' := of_decide_eq_true h4
    rw [hll1] at h4'
    cases e1 with
    | nil => simp only [List.length_nil] at h4'; omega
    | cons x e1b =>
    obtain ⟨fr, tt, kind, name, args, tests⟩ := x
    subst hl1
    simp only [List.length_cons] at hdl1
    simp only [badE] at hE1
    refine awp_skip ?_; refine awp_seq ?_; refine awp_block ?_
    refine (awp_draw TT_ok mixed p6_8 [] (fun _ => true) (by kernel_rfl) fun pan K hp hK => ?_)
    refine onB_intro (fun h5 => ?_) (fun h5 => ?_)
    · refine hK _ ?_; clear hK hp K pan; refine awp_norm [1, 4, 5] rfl rfl ?_; refine rgn fun pan K hp hK => ?_; refine hK _ ?_; clear hK hp K pan
      exact ⟨_, Nat.lt_succ_self _, _, sub_norm (slots := [1, 4, 5]) rfl rfl, d1 ++ [⟨fr, tt, kind, name, args, tests⟩], e1b, true, rfl, by simp, (by simp only [h5, Bool.true_or] at hE1 ⊢; exact hE1), by rw [List.length_append, wrapId (by omega) (by omega)]; rfl⟩
    refine And.intro (by omega) (Exists.intro _ (And.intro (eds_at rfl) ?_))
    refine onB_intro (fun h6 => ?_) (fun h6 => ?_)
    · refine hK _ ?_; clear hK hp K pan; refine awp_norm [1, 4, 5] rfl rfl ?_; refine rgn fun pan K hp hK => ?_; refine hK _ ?_; clear hK hp K pan
      exact ⟨_, Nat.lt_succ_self _, _, sub_norm (slots := [1, 4, 5]) rfl rfl, d1 ++ [⟨fr, tt, kind, name, args, tests⟩], e1b, true, rfl, by simp, (by simp only [h5, h6, Bool.true_or, Bool.or_true] at hE1 ⊢; exact hE1), by rw [List.length_append, wrapId (by omega) (by omega)]; rfl⟩
    refine And.intro (by omega) (Exists.intro _ (And.intro (eds_at rfl) ?_))
    refine onB_intro (fun h7 => ?_) (fun h7 => ?_)
    · refine hK _ ?_; clear hK hp K pan; refine awp_norm [1, 4, 5] rfl rfl ?_; refine rgn fun pan K hp hK => ?_; refine hK _ ?_; clear hK hp K pan
      exact ⟨_, Nat.lt_succ_self _, _, sub_norm (slots := [1, 4, 5]) rfl rfl, d1 ++ [⟨fr, tt, kind, name, args, tests⟩], e1b, true, rfl, by simp, (by simp only [h5, h6, h7, Bool.true_or, Bool.or_true] at hE1 ⊢; exact hE1), by rw [List.length_append, wrapId (by omega) (by omega)]; rfl⟩
    refine And.intro (by omega) (Exists.intro _ (And.intro (eds_at rfl) ?_))
    refine onB_intro (fun h8 => ?_) (fun h8 => ?_)
    · refine hK _ ?_; clear hK hp K pan; refine awp_norm [1, 4, 5] rfl rfl ?_; refine rgn fun pan K hp hK => ?_; refine hK _ ?_; clear hK hp K pan
      exact ⟨_, Nat.lt_succ_self _, _, sub_norm (slots := [1, 4, 5]) rfl rfl, d1 ++ [⟨fr, tt, kind, name, args, tests⟩], e1b, true, rfl, by simp, (by simp only [h5, h6, h7, h8, Bool.true_or, Bool.or_true, Bool.or_self] at hE1 ⊢; exact hE1), by rw [List.length_append, wrapId (by omega) (by omega)]; rfl⟩
    refine And.intro (by omega) (Exists.intro _ (And.intro (eds_at rfl) ?_))
    refine hK _ ?_; clear hK hp K pan; refine awp_norm [1, 4, 5] rfl rfl ?_; refine rgn fun pan K hp hK => ?_; refine hK _ ?_; clear hK hp K pan
    exact ⟨_, Nat.lt_succ_self _, _, sub_norm (slots := [1, 4, 5]) rfl rfl, d1 ++ [⟨fr, tt, kind, name, args, tests⟩], e1b, decide (tt ≥ points), rfl, by simp, (by simp only [h5, h6, h7, h8, Bool.false_or, Bool.or_self] at hE1 ⊢; exact hE1), by rw [List.length_append, wrapId (by omega) (by omega)]; rfl⟩
  have h4' := of_decide_eq_false h4
  rw [hll1] at h4'
  obtain rfl : e1 = [] := List.eq_nil_of_length_eq_zero (by omega)
  simp only [badE] at hE1
  rw [Bool.or_false] at hE1
  subst hE1
  refine awp_exit ?_
  refine awp_norm [1, 4] rfl rfl ?_; refine awp_seq ?_; refine awp_seq ?_; refine rgn fun pan K hp hK => ?_; refine hK _ ?_; clear hK hp K pan; refine awp_norm [1, 4, 6] rfl rfl ?_; refine awp_block ?_
  refine awp_loop (fun k Y => ∃ (d2 e2 : List Int) (b : Bool), k = e2.length ∧ heads = d2 ++ e2 ∧ (b || badH points e2) = bH ∧ Y = ⟨[(1, .box 0 0), (4, .d (.s (.bool b))), (6, .d (num d2.length))], [.box 58 [.d (.sl 1 (strs vars)), .d (.sl 2 (ars arrays)), .d (num points), .d (.sl 6 (eds edges)), .d (.sl 1 (nums heads))]]⟩) (heads.length) (⟨[], heads, _, rfl, rfl, hH1, rfl⟩) ?_
  clear hH1
  rintro k Y ⟨d2, e2, b, rfl, hl2, hH1, rfl⟩
  have hll2 : (nums heads).length = d2.length + e2.length := by rw [nums_len, hl2, List.length_append]
  have hdl2 : d2.length + e2.length ≤ 1073741824 := by rw [hl2, List.length_append] at hb2'; exact hb2'
  refine awp_seq ?_; refine awp_seq ?_; refine rgn fun pan K hp hK => ?_; refine hK _ ?_; clear hK hp K pan; refine awp_norm [1, 4, 6, 90] rfl rfl ?_
  refine awp_cond2 rfl (onB_intro (fun h5 => ?_) (fun h5 => ?_))
  · have h5' := of_decide_eq_true h5
    rw [hll2] at h5'
    cases e2 with
    | nil => simp only [List.length_nil] at h5'; omega
    | cons x e2b =>
    subst hl2
    simp only [List.length_cons] at hdl2
    simp only [badH] at hH1
    refine awp_skip ?_; refine awp_seq ?_; refine awp_block ?_
    refine (awp_draw TT_ok mixed p6_12 [] (fun _ => true) (by kernel_rfl) fun pan K hp hK => ?_)
    refine onB_intro (fun h6 => ?_) (fun h6 => ?_)
    · refine hK _ ?_; clear hK hp K pan; refine awp_norm [1, 4, 6] rfl rfl ?_; refine rgn fun pan K hp hK => ?_; refine hK _ ?_; clear hK hp K pan
      exact ⟨_, Nat.lt_succ_self _, _, sub_norm (slots := [1, 4, 6]) rfl rfl, d2 ++ [x], e2b, true, rfl, by simp, (by simp only [h6, Bool.true_or] at hH1 ⊢; exact hH1), by rw [List.length_append, wrapId (by omega) (by omega)]; rfl⟩
    refine And.intro (by omega) (Exists.intro _ (And.intro (nums_at rfl) ?_))
    refine onB_intro (fun h7 => ?_) (fun h7 => ?_)
    · refine hK _ ?_; clear hK hp K pan; refine awp_norm [1, 4, 6] rfl rfl ?_; refine rgn fun pan K hp hK => ?_; refine hK _ ?_; clear hK hp K pan
      exact ⟨_, Nat.lt_succ_self _, _, sub_norm (slots := [1, 4, 6]) rfl rfl, d2 ++ [x], e2b, true, rfl, by simp, (by simp only [h6, h7, Bool.true_or, Bool.or_true] at hH1 ⊢; exact hH1), by rw [List.length_append, wrapId (by omega) (by omega)]; rfl⟩
    refine And.intro (by omega) (Exists.intro _ (And.intro (nums_at rfl) ?_))
    refine hK _ ?_; clear hK hp K pan; refine awp_norm [1, 4, 6] rfl rfl ?_; refine rgn fun pan K hp hK => ?_; refine hK _ ?_; clear hK hp K pan
    exact ⟨_, Nat.lt_succ_self _, _, sub_norm (slots := [1, 4, 6]) rfl rfl, d2 ++ [x], e2b, decide (x ≥ points), rfl, by simp, (by simp only [h6, h7, Bool.false_or] at hH1 ⊢; exact hH1), by rw [List.length_append, wrapId (by omega) (by omega)]; rfl⟩
  have h5' := of_decide_eq_false h5
  rw [hll2] at h5'
  obtain rfl : e2 = [] := List.eq_nil_of_length_eq_zero (by omega)
  simp only [badH] at hH1
  rw [Bool.or_false] at hH1
  subst hH1
  refine awp_exit ?_
  refine awp_norm [1, 4] rfl rfl ?_; refine awp_seq ?_; refine rgn fun pan K hp hK => ?_; show aCall _ _ _ _ _ _ _
  refine aCall_ret (L := []) rfl rfl rfl (graphOf_spec _ ⟨vars, arrays, points, edges, heads⟩ (by omega)) rfl rfl rfl rfl ?_
  show aCall _ _ _ _ _ _ _
  refine aCall_ret (L := []) rfl rfl rfl so rfl rfl rfl rfl ?_
  refine hK _ ?_; clear hK hp K pan; refine awp_norm [1, 4, 7, 8] rfl rfl ?_; refine awp_seq ?_; refine awp_seq ?_; refine rgn fun pan K hp hK => ?_; refine hK _ ?_; clear hK hp K pan; refine awp_norm [1, 7, 8, 118] rfl rfl ?_
  refine awp_cond2 rfl (onB_intro (fun h6 => ?_) (fun h6 => ?_))
  · refine awp_seq ?_; refine rgn fun pan K hp hK => ?_; show aCall _ _ _ _ _ _ _
    refine aCall_ret (L := []) rfl rfl rfl sc rfl rfl rfl rfl ?_
    refine hK _ ?_; clear hK hp K pan; refine awp_norm [2] rfl rfl ?_; refine awp_ret ?_
    exact ⟨_, [], _, [.d (.s (.bool true))], rfl, rfl, rfl, rfl, rfl, by (first | exact PWs.refl _ | (simp; exact PWs.refl _)), rfl⟩
  rw [hbad] at h6
  cases h6
theorem order_law_ok (hw : wtG ⟨vars, arrays, points, edges, heads⟩ ≤ 400000000) (h1 : edges.length ≤ 200) (h2 : heads.length ≤ 200) (h3 : points ≤ 200) (bE bH : Bool) (hE1 : ((decide (points < 0) || decide (points > 120)) || badE points edges) = bE) (hH1 : (bE || badH points heads) = bH) (hbad : bH = false) (l : List Int) (hl : l.length ≤ 1000) (so : Spec Tryz.prog (GV t u) 26 [.d (.agg (Gr.cs ⟨vars, arrays, points, edges, heads⟩))] [] (.ret (.tup [.d (.sl 1 (nums l)), .d (.s .nilIface)])) []) (sr : Spec Tryz.prog (GV t u) 29 [.d (.agg (Gr.cs ⟨vars, arrays, points, edges, heads⟩))] [] (.ret (.d (.sl 1 (nums l)))) []) : Spec Tryz.prog (GV t u) 6 [.d (.agg (Gr.cs ⟨vars, arrays, points, edges, heads⟩))] [] (.ret (.d (.s (.bool true)))) [] := by
  have hb1' : edges.length ≤ 1073741824 := by omega
  have hb2' : heads.length ≤ 1073741824 := by omega
  have ss := sameInts_refl (GV t u) l (by omega)
  refine spec_of_awp2 TT_ok (N := 134) Tryz.func6 rfl (by rfl) (Nat.le_refl _) rfl ?_
  refine awp_seq ?_; refine rgn fun pan K hp hK => ?_; refine hK _ ?_; clear hK hp K pan; refine awp_norm [1] rfl rfl ?_; refine awp_seq ?_; refine rgn fun pan K hp hK => ?_; show aCall _ _ _ _ _ _ _
  refine aCall_ret (L := []) rfl rfl rfl (one_true t u) rfl rfl rfl rfl ?_
  refine hK _ ?_; clear hK hp K pan; refine awp_norm [1, 3] rfl rfl ?_; refine awp_seq ?_; refine awp_seq ?_; refine rgn fun pan K hp hK => ?_
  refine onB_intro (fun h1 => ?_) (fun h1 => ?_)
  · have q1 := of_decide_eq_true h1
    (try simp only [eds_len] at q1)
    omega
  refine onB_intro (fun h2 => ?_) (fun h2 => ?_)
  · have q1 := of_decide_eq_true h2
    (try simp only [nums_len] at q1)
    omega
  refine hK _ ?_; clear hK hp K pan; refine awp_norm [1, 3, 28] rfl rfl ?_
  refine awp_cond2 rfl (onB_intro (fun h3 => ?_) (fun h3 => ?_))
  · have q1 := of_decide_eq_true h3
    (try simp only [eds_len] at q1)
    omega
  refine awp_skip ?_
  refine awp_cut (fun Z => Z = ⟨[(1, .box 0 0), (4, .d (.s (.bool (decide (points < 0) || decide (points > 120)))))], [.box 58 [.d (.sl 1 (strs vars)), .d (.sl 2 (ars arrays)), .d (num points), .d (.sl 6 (eds edges)), .d (.sl 1 (nums heads))]]⟩) ?_ ?_
  · refine rgn fun pan K hp hK => ?_
    refine onB_intro (fun h4 => ?_) (fun h4 => ?_)
    · refine hK _ ?_; clear hK hp K pan
      have hq' : decide (points < 0) = true := h4
      have e : (decide (points < 0) || decide (points > 120)) = true := by rw [hq']; rfl
      exact ⟨_, sub_norm (slots := [1, 4]) rfl rfl, by rw [e]; rfl⟩
    refine hK _ ?_; clear hK hp K pan
    have hq' : decide (points < 0) = false := h4
    have e : (decide (points < 0) || decide (points > 120)) = decide (points > 120) := by rw [hq']; rfl
    exact ⟨_, sub_norm (slots := [1, 4]) rfl rfl, by rw [e]; rfl⟩
  rintro Z rfl
  refine awp_seq ?_; refine awp_seq ?_; refine rgn fun pan K hp hK => ?_; refine hK _ ?_; clear hK hp K pan; refine awp_norm [1, 4, 5] rfl rfl ?_; refine awp_block ?_
  refine awp_loop (fun k Y => ∃ (d1 e1 : List Ed) (b : Bool), k = e1.length ∧ edges = d1 ++ e1 ∧ (b || badE points e1) = bE ∧ Y = ⟨[(1, .box 0 0), (4, .d (.s (.bool b))), (5, .d (num d1.length))], [.box 58 [.d (.sl 1 (strs vars)), .d (.sl 2 (ars arrays)), .d (num points), .d (.sl 6 (eds edges)), .d (.sl 1 (nums heads))]]⟩) (edges.length) (⟨[], edges, _, rfl, rfl, hE1, rfl⟩) ?_
  clear hE1
  rintro k Y ⟨d1, e1, b, rfl, hl1, hE1, rfl⟩
  have hll1 : (eds edges).length = d1.length + e1.length := by rw [eds_len, hl1, List.length_append]
  have hdl1 : d1.length + e1.length ≤ 1073741824 := by rw [hl1, List.length_append] at hb1'; exact hb1'
  refine awp_seq ?_; refine awp_seq ?_; refine rgn fun pan K hp hK => ?_; refine hK _ ?_; clear hK hp K pan; refine awp_norm [1, 4, 5, 42] rfl rfl ?_
  refine awp_cond2 rfl (onB_intro (fun h4 => ?_) (fun h4 => ?_))
  · have h4' := of_decide_eq_true h4
    rw [hll1] at h4'
    cases e1 with
    | nil => simp only [List.length_nil] at h4'; omega
    | cons x e1b =>
    obtain ⟨fr, tt, kind, name, args, tests⟩ := x
    subst hl1
    simp only [List.length_cons] at hdl1
    simp only [badE] at hE1
    refine awp_skip ?_; refine awp_seq ?_; refine awp_block ?_
    refine (awp_draw TT_ok mixed p6_8 [] (fun _ => true) (by kernel_rfl) fun pan K hp hK => ?_)
    refine onB_intro (fun h5 => ?_) (fun h5 => ?_)
    · refine hK _ ?_; clear hK hp K pan; refine awp_norm [1, 4, 5] rfl rfl ?_; refine rgn fun pan K hp hK => ?_; refine hK _ ?_; clear hK hp K pan
      exact ⟨_, Nat.lt_succ_self _, _, sub_norm (slots := [1, 4, 5]) rfl rfl, d1 ++ [⟨fr, tt, kind, name, args, tests⟩], e1b, true, rfl, by simp, (by simp only [h5, Bool.true_or] at hE1 ⊢; exact hE1), by rw [List.length_append, wrapId (by omega) (by omega)]; rfl⟩
    refine And.intro (by omega) (Exists.intro _ (And.intro (eds_at rfl) ?_))
    refine onB_intro (fun h6 => ?_) (fun h6 => ?_)
    · refine hK _ ?_; clear hK hp K pan; refine awp_norm [1, 4, 5] rfl rfl ?_; refine rgn fun pan K hp hK => ?_; refine hK _ ?_; clear hK hp K pan
      exact ⟨_, Nat.lt_succ_self _, _, sub_norm (slots := [1, 4, 5]) rfl rfl, d1 ++ [⟨fr, tt, kind, name, args, tests⟩], e1b, true, rfl, by simp, (by simp only [h5, h6, Bool.true_or, Bool.or_true] at hE1 ⊢; exact hE1), by rw [List.length_append, wrapId (by omega) (by omega)]; rfl⟩
    refine And.intro (by omega) (Exists.intro _ (And.intro (eds_at rfl) ?_))
    refine onB_intro (fun h7 => ?_) (fun h7 => ?_)
    · refine hK _ ?_; clear hK hp K pan; refine awp_norm [1, 4, 5] rfl rfl ?_; refine rgn fun pan K hp hK => ?_; refine hK _ ?_; clear hK hp K pan
      exact ⟨_, Nat.lt_succ_self _, _, sub_norm (slots := [1, 4, 5]) rfl rfl, d1 ++ [⟨fr, tt, kind, name, args, tests⟩], e1b, true, rfl, by simp, (by simp only [h5, h6, h7, Bool.true_or, Bool.or_true] at hE1 ⊢; exact hE1), by rw [List.length_append, wrapId (by omega) (by omega)]; rfl⟩
    refine And.intro (by omega) (Exists.intro _ (And.intro (eds_at rfl) ?_))
    refine onB_intro (fun h8 => ?_) (fun h8 => ?_)
    · refine hK _ ?_; clear hK hp K pan; refine awp_norm [1, 4, 5] rfl rfl ?_; refine rgn fun pan K hp hK => ?_; refine hK _ ?_; clear hK hp K pan
      exact ⟨_, Nat.lt_succ_self _, _, sub_norm (slots := [1, 4, 5]) rfl rfl, d1 ++ [⟨fr, tt, kind, name, args, tests⟩], e1b, true, rfl, by simp, (by simp only [h5, h6, h7, h8, Bool.true_or, Bool.or_true, Bool.or_self] at hE1 ⊢; exact hE1), by rw [List.length_append, wrapId (by omega) (by omega)]; rfl⟩
    refine And.intro (by omega) (Exists.intro _ (And.intro (eds_at rfl) ?_))
    refine hK _ ?_; clear hK hp K pan; refine awp_norm [1, 4, 5] rfl rfl ?_; refine rgn fun pan K hp hK => ?_; refine hK _ ?_; clear hK hp K pan
    exact ⟨_, Nat.lt_succ_self _, _, sub_norm (slots := [1, 4, 5]) rfl rfl, d1 ++ [⟨fr, tt, kind, name, args, tests⟩], e1b, decide (tt ≥ points), rfl, by simp, (by simp only [h5, h6, h7, h8, Bool.false_or, Bool.or_self] at hE1 ⊢; exact hE1), by rw [List.length_append, wrapId (by omega) (by omega)]; rfl⟩
  have h4' := of_decide_eq_false h4
  rw [hll1] at h4'
  obtain rfl : e1 = [] := List.eq_nil_of_length_eq_zero (by omega)
  simp only [badE] at hE1
  rw [Bool.or_false] at hE1
  subst hE1
  refine awp_exit ?_
  refine awp_norm [1, 4] rfl rfl ?_; refine awp_seq ?_; refine awp_seq ?_; refine rgn fun pan K hp hK => ?_; refine hK _ ?_; clear hK hp K pan; refine awp_norm [1, 4, 6] rfl rfl ?_; refine awp_block ?_
  refine awp_loop (fun k Y => ∃ (d2 e2 : List Int) (b : Bool), k = e2.length ∧ heads = d2 ++ e2 ∧ (b || badH points e2) = bH ∧ Y = ⟨[(1, .box 0 0), (4, .d (.s (.bool b))), (6, .d (num d2.length))], [.box 58 [.d (.sl 1 (strs vars)), .d (.sl 2 (ars arrays)), .d (num points), .d (.sl 6 (eds edges)), .d (.sl 1 (nums heads))]]⟩) (heads.length) (⟨[], heads, _, rfl, rfl, hH1, rfl⟩) ?_
  clear hH1
  rintro k Y ⟨d2, e2, b, rfl, hl2, hH1, rfl⟩
  have hll2 : (nums heads).length = d2.length + e2.length := by rw [nums_len, hl2, List.length_append]
  have hdl2 : d2.length + e2.length ≤ 1073741824 := by rw [hl2, List.length_append] at hb2'; exact hb2'
  refine awp_seq ?_; refine awp_seq ?_; refine rgn fun pan K hp hK => ?_; refine hK _ ?_; clear hK hp K pan; refine awp_norm [1, 4, 6, 90] rfl rfl ?_
  refine awp_cond2 rfl (onB_intro (fun h5 => ?_) (fun h5 => ?_))
  · have h5' := of_decide_eq_true h5
    rw [hll2] at h5'
    cases e2 with
    | nil => simp only [List.length_nil] at h5'; omega
    | cons x e2b =>
    subst hl2
    simp only [List.length_cons] at hdl2
    simp only [badH] at hH1
    refine awp_skip ?_; refine awp_seq ?_; refine awp_block ?_
    refine (awp_draw TT_ok mixed p6_12 [] (fun _ => true) (by kernel_rfl) fun pan K hp hK => ?_)
    refine onB_intro (fun h6 => ?_) (fun h6 => ?_)
    · refine hK _ ?_; clear hK hp K pan; refine awp_norm [1, 4, 6] rfl rfl ?_; refine rgn fun pan K hp hK => ?_; refine hK _ ?_; clear hK hp K pan
      exact ⟨_, Nat.lt_succ_self _, _, sub_norm (slots := [1, 4, 6]) rfl rfl, d2 ++ [x], e2b, true, rfl, by simp, (by simp only [h6, Bool.true_or] at hH1 ⊢; exact hH1), by rw [List.length_append, wrapId (by omega) (by omega)]; rfl⟩
    refine And.intro (by omega) (Exists.intro _ (And.intro (nums_at rfl) ?_))
    refine onB_intro (fun h7 => ?_) (fun h7 => ?_)
    · refine hK _ ?_; clear hK hp K pan; refine awp_norm [1, 4, 6] rfl rfl ?_; refine rgn fun pan K hp hK => ?_; refine hK _ ?_; clear hK hp K pan
      exact ⟨_, Nat.lt_succ_self _, _, sub_norm (slots := [1, 4, 6]) rfl rfl, d2 ++ [x], e2b, true, rfl, by simp, (by simp only [h6, h7, Bool.true_or, Bool.or_true] at hH1 ⊢; exact hH1), by rw [List.length_append, wrapId (by omega) (by omega)]; rfl⟩
    refine And.intro (by omega) (Exists.intro _ (And.intro (nums_at rfl) ?_))
    refine hK _ ?_; clear hK hp K pan; refine awp_norm [1, 4, 6] rfl rfl ?_; refine rgn fun pan K hp hK => ?_; refine hK _ ?_; clear hK hp K pan
    exact ⟨_, Nat.lt_succ_self _, _, sub_norm (slots := [1, 4, 6]) rfl rfl, d2 ++ [x], e2b, decide (x ≥ points), rfl, by simp, (by simp only [h6, h7, Bool.false_or] at hH1 ⊢; exact hH1), by rw [List.length_append, wrapId (by omega) (by omega)]; rfl⟩
  have h5' := of_decide_eq_false h5
  rw [hll2] at h5'
  obtain rfl : e2 = [] := List.eq_nil_of_length_eq_zero (by omega)
  simp only [badH] at hH1
  rw [Bool.or_false] at hH1
  subst hH1
  refine awp_exit ?_
  refine awp_norm [1, 4] rfl rfl ?_; refine awp_seq ?_; refine rgn fun pan K hp hK => ?_; show aCall _ _ _ _ _ _ _
  refine aCall_ret (L := []) rfl rfl rfl (graphOf_spec _ ⟨vars, arrays, points, edges, heads⟩ (by omega)) rfl rfl rfl rfl ?_
  show aCall _ _ _ _ _ _ _
  refine aCall_ret (L := []) rfl rfl rfl so rfl rfl rfl rfl ?_
  refine hK _ ?_; clear hK hp K pan; refine awp_norm [1, 4, 7, 8] rfl rfl ?_; refine awp_seq ?_; refine awp_seq ?_; refine rgn fun pan K hp hK => ?_; refine hK _ ?_; clear hK hp K pan; refine awp_norm [1, 7, 8, 118] rfl rfl ?_
  refine awp_cond2 rfl (onB_intro (fun h6 => ?_) (fun h6 => ?_))
  · rw [hbad] at h6
    cases h6
  refine awp_skip ?_; refine awp_seq ?_; refine rgn fun pan K hp hK => ?_; show aCall _ _ _ _ _ _ _
  refine aCall_ret (L := []) rfl rfl rfl sr rfl rfl rfl rfl ?_
  show aCall _ _ _ _ _ _ _
  refine aCall_ret (L := []) rfl rfl rfl ss rfl rfl rfl rfl ?_
  refine hK _ ?_; clear hK hp K pan; refine awp_norm [2] rfl rfl ?_; refine awp_ret ?_
  exact ⟨_, [], _, [.d (.s (.bool true))], rfl, rfl, rfl, rfl, rfl, by (first | exact PWs.refl _ | (simp; exact PWs.refl _)), rfl⟩
/-- The law, over pure values. -/
theorem flowOrder_true (hE : ErrsOk t u) (g : Gr) (hw : wtG g ≤ 400000000) : Spec Tryz.prog (GV t u) 6 [.d (.agg g.cs)] [] (.ret (.d (.s (.bool true)))) [] := by
  obtain ⟨vars, arrays, points, edges, heads⟩ := g
  by_cases hbig : 200 < edges.length ∨ 200 < heads.length ∨ 200 < points
  · exact order_big vars arrays points edges heads hw hbig
  have h1 : edges.length ≤ 200 := by omega
  have h2 : heads.length ≤ 200 := by omega
  have h3 : points ≤ 200 := by omega
  cases hb : (((decide (points < 0) || decide (points > 120)) || badE points edges) || badH points heads) with
  | true => exact order_law_bad vars arrays points edges heads hE hw h1 h2 h3 _ _ rfl rfl hb
  | false =>
    have hb' := hb
    simp only [Bool.or_eq_false_iff, decide_eq_false_iff_not] at hb'
    obtain ⟨⟨⟨p1, p2⟩, e1⟩, e2⟩ := hb'
    obtain ⟨n, hpt⟩ : ∃ n : Nat, points = n := ⟨points.toNat, by omega⟩
    rcases Nat.eq_zero_or_pos n with hn0 | hn0
    · refine order_law_ok vars arrays points edges heads hw h1 h2 h3 _ _ rfl rfl hb [] (by decide) (order_zero vars arrays points edges heads n h1 h2 hn0 hpt e1 e2) ?_
      rw [hpt, hn0]
      exact orderOf_zero vars arrays edges heads _
    have he : ∀ e, e ∈ edges → 0 ≤ e.t ∧ e.t < n := fun e he => by have := badE_mem points edges e1 e he; omega
    obtain ⟨o, s1, hv, k1, k2⟩ := visF_ok n edges he n 0 (List.replicate n false) (by omega) (by omega) (by simp) (by simp [seenAt, List.getD_eq_getElem?_getD, hn0]) (by simp)
    have ho : o.length ≤ 1000 := by simp only [List.count_replicate_self] at k2; omega
    refine order_law_ok vars arrays points edges heads hw h1 h2 h3 _ _ rfl rfl hb o.reverse (by simpa using ho) (order_pos vars arrays points edges heads n h1 h2 hn0 (by omega) hpt e1 e2 o s1 hv ho) ?_
    rw [hpt]
    exact orderOf_some vars arrays edges heads n _ he (by omega) hn0 (by omega) o s1 hv ho
end
end Go.Abs
end
namespace Go.Abs
open Go Go.Proofs Go.Proofs.YtedljfabpknjiaaGreatDoor Go.ChangeShapes Go.WideShapes Go.ChangeAt Go.RowKit
set_option maxRecDepth 100000
theorem ownT : ownKnob Tryz.prog.godebug = none := by kernel_rfl
theorem laidOutT : laidOutB Tryz.prog = true := by kernel_rfl
theorem readT58 : Tryz.prog.readableRec 58 = true := by kernel_rfl
theorem size58 : 58 < Tryz.prog.types.size := of_decide_eq_true (by kernel_rfl)
theorem resT6 : Tryz.f6.resultTypes = #[4] := by kernel_rfl
theorem agg_of_cells {v : Value} {cs : List Value} (h : v.cells.toList = cs) (hl : cs.length = 5) : v = .agg cs.toArray := by
  subst h
  cases v <;> simp [Value.cells] at hl ⊢
theorem order_contract (H : Type) (enc : TypeId × Value → H) (W : World) (base : Nat) (args : Array Value) (ds gs : List (DataW H)) (before : List MemPlace)
    (hW : DataW.Whole enc Tryz.prog Tryz.f6.params.toList Rows.flowOrderSpec.vars false W args.toList ds gs before) (hcond : Rows.uptoSmall H (ds ++ gs) = true) (hL : laidMetH Tryz.prog laidAll W) :
    Calls Tryz.prog 6 args W fun e W' => ∃ v, e = .returned v ∧ Rows.flowOrderSpec.post enc Tryz.prog Tryz.f6 false true false false W args v W' := by
  have hW' := hW
  obtain ⟨p, q, hA0, hV, rfl, hfz, hnd⟩ := hW
  have hA : DataW.TrodAll enc Tryz.prog W 0 (fun _ => true) true Tryz.f6.params.toList args.toList ds p := hA0
  rw [Tryz.params6] at hA
  obtain ⟨v0, d0, rfl, rfl, h0⟩ := trodAll_one hA
  obtain ⟨rfl, rfl⟩ := trodVars_none hV
  have hL' := laidOk_of hL
  obtain ⟨n, h0'⟩ := h0
  obtain ⟨g, hg1, hg2⟩ := rd_gr h0'
  have hb : Rows.uptoBulk d0 ≤ 1048576 := by
    have := of_decide_eq_true hcond
    simpa [Rows.uptoBulkAll] using this
  have hl : v0.cells.toList.length = 5 := by
    obtain ⟨_, _, _, _, hl, _⟩ := DataW.trod_struct Tryz.underlying58 h0'
    rw [hl]
    exact c58
  have hv0 := agg_of_cells rfl hl
  have hS := flowOrder_true (errsOk_of hL') g (by have := hg2; simp only at this; omega)
  have hc := hS.2.2 noRow (limOf W) W [v0] (noRow_ok _ _) (globOk_of hL') (by
    simp only [Vs, V, VD]
    exact ⟨v0, [], rfl, ⟨_, hv0, hg1⟩, rfl⟩)
  refine Calls.mono hc ?_
  rintro e W' ⟨H', lim', _, hF, _, _, hO⟩
  obtain ⟨v, rfl, hv⟩ := hO
  simp only [V, VD] at hv
  subst hv
  simp only [List.append_nil] at hW'
  have keep : ∀ sp : Nat → Bool, (∀ x ∈ p, sp x.block = true) → DataW.Trod enc Tryz.prog W' 0 sp true 58 v0 d0 p := fun sp hsp =>
    WideElems.Trod_stays laidOutT readT58 size58 ⟨n, h0'⟩ (fun x hx => same_of hF (hW'.lt x hx)) hsp
  exact ⟨_, rfl, post_at (pa := p) (pv := []) hW' (fun _ _ _ => trodAll_mk1 (shut_bool Tryz.underlying4 _)) (fun sp hsp => trodAll_mk1 (keep sp hsp)) (fun _ _ => rfl) (by simp) hF (ok_one resT6 rfl (okWide_bool_mk Tryz.underlying4 _))⟩
noncomputable def args6 : Array Value := #[.agg #[.slice none 0 0, .slice none 0 0, .int .i64 0, .slice none 0 0, .slice none 0 0]]
theorem reads6 (os : Os) {H : Type} (enc : TypeId × Value → H) : ∃ ds places, DataW.whole enc Tryz.prog ((laidWorld os).forCall (fun _ _ => 0) ⟨#[], args6, []⟩).memory Tryz.f6.params.toList Rows.flowOrderSpec.vars false args6.toList 8 = some (ds, [], places) ∧ Rows.uptoSmall H (ds ++ []) = true :=
  ⟨[.agg [.nil, .nil, .lit (.int .i64 0), .nil, .nil]], [], by kernel_rfl, by kernel_rfl⟩
theorem order_lifted (os : Os) (started : os.Started) (H : Type) (enc : TypeId × Value → H) (F : Stop.Interp) :
    ReturnsInHanded {} Tryz.checked os 6 .any ((Rows.OpenSpec.upto Rows.flowOrderSpec).preRow enc Tryz.prog Tryz.f6 Rows.flowOrderUptoRow.domain false Rows.flowOrderUptoRow.laid) (((Rows.OpenSpec.upto Rows.flowOrderSpec).at F).post enc Tryz.prog Tryz.f6 false true false false) := by
  obtain ⟨ds, places, hx, hk⟩ := reads6 os enc
  refine returnsInHanded_of_row (C := Tryz.checked) (s := Rows.OpenSpec.upto Rows.flowOrderSpec) ownT started (by kernel_rfl) Tryz.func6
    (witness_row_atRef (enc := enc) (C := Tryz.checked) false (laidWorld os) args6 rfl (laidWorld_vars os args6) (by kernel_rfl) (by kernel_rfl)
      (OpenSpec.preRow_of_cond 8 hx rfl (fun k hk' => by cases hk'; exact hk) (by kernel_rfl) (laidWorld_met os args6))) ?_
  intro W base args ds gs before hval hW _ hcond _ hL _ _
  exact order_contract H enc W base args ds gs before hW (hcond _ rfl) hL
theorem orderSaid : Rows.FlowOrderUptoSaid :=
  OpenClaim.holds_of_cond 6 Tryz.f6 rfl rfl rfl rfl rfl rfl rfl ⟨rfl, rfl, rfl, rfl, rfl⟩ rfl rfl rfl rfl rfl (by kernel_rfl) Tryz.func6 closed6
    (of_decide_eq_true (by kernel_rfl)) (by unfold Func.isWrapper; first | (rw [if_pos (by decide +kernel)]; kernel_rfl) | (rw [if_neg (by decide +kernel)]; exact ⟨rfl, rfl⟩))
    (fun os started H enc _ F => by rw [OpenClaim.pre_eq_preRow]; exact order_lifted os started H enc F)
theorem orderPlain (f : FuncId) (fn : Func) (hf : Tryz.pinned.checked.prog.funcNamed "raycone/rayconelaw3.FlowOrder" = some f) (hfn : Tryz.pinned.checked.prog.funcs[f]? = some fn) :
    true = Tryz.pinned.checked.prog.looks [] ∧ ∀ (j : Nat) t, fn.params[j]? = some t → Tryz.pinned.checked.prog.wantsStandIn t = false := by
  obtain rfl : f = 6 := Option.some.inj ((show Tryz.prog.funcNamed "raycone/rayconelaw3.FlowOrder" = some 6 by kernel_rfl).symm.trans hf) |>.symm
  obtain rfl : fn = Tryz.f6 := (Option.some.inj (Tryz.func6.symm.trans hfn)).symm
  refine ⟨by kernel_rfl, fun j t ht => ?_⟩
  rw [Tryz.params6] at ht
  obtain rfl : t = 58 := by simpa using Array.mem_of_getElem? ht
  exact (show Tryz.prog.wantsStandIn 58 = false by kernel_rfl)
end Go.Abs
namespace Go.Proofs.YtedljfabpknjiaaGreatDoor
open Go Go.Abs
theorem flowOrderCard : Rows.FlowOrderUptoCardSaid :=
  Claim7.holds_tied_plain_at .later [] _ _ _ _ orderSaid (fun _ h => by cases h) (by kernel_rfl) (fun _ h => by cases h) flowOrderUpto_row_tie rfl ⟨rfl, rfl⟩ (by kernel_rfl) rfl orderPlain (by kernel_rfl)
end Go.Proofs.YtedljfabpknjiaaGreatDoor
#print axioms Go.Proofs.YtedljfabpknjiaaGreatDoor.flowOrderCard
