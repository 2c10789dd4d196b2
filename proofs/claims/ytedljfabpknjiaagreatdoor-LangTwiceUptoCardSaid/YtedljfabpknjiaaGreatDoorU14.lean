/- Texts of this proof, joined: AbsMK, AbsNJ, AbsNC, AbsNK, AbsNL, AbsLG, AbsLH, AbsLI, AbsTA, AbsTB, AbsTC. -/
import Derived.Test.YtedljfabpknjiaaGreatDoorU13
import Derived.Laws.StructEq
import Derived.Test.YtedljfabpknjiaaGreatDoorU12
import Derived.Test.YtedljfabpknjiaaGreatDoorU10
section
namespace Go.Abs
open Go Go.Proofs
attribute [local irreducible] aCall AWp Sub Spec
def p38_6 : Plan := (.take 0 (.take 1 (.take 2 (.load 3 (.take 4 (.take 5 (.take 6 (.load 7 (.take 8 .done)))))))))
theorem sameStrs_spec (G : Glob) (l : List ByteArray) (hb : l.length ≤ 1073741824) : Spec Tryz.prog G 38 [.d (.sl 1 (strs l)), .d (.sl 1 (strs l))] [] (.ret (.d (.s (.bool true)))) [] := by
  refine spec_of_awp2 TT_ok (N := 26) Tryz.func38 rfl (by rfl) (Nat.le_refl _) rfl ?_
  refine awp_seq ?_; refine rgn fun pan K hp hK => ?_; refine hK _ ?_; clear hK hp K pan; refine awp_norm [0, 1] rfl rfl ?_; refine awp_seq ?_; refine awp_seq ?_; refine rgn fun pan K hp hK => ?_; refine hK _ ?_; clear hK hp K pan; refine awp_norm [0, 1, 10] rfl rfl ?_
  refine awp_cond2 rfl (onB_intro (fun h1 => ?_) (fun h1 => ?_))
  · simp at h1
  refine awp_skip ?_; refine awp_seq ?_; refine awp_seq ?_; refine rgn fun pan K hp hK => ?_; refine hK _ ?_; clear hK hp K pan; refine awp_norm [0, 1, 5] rfl rfl ?_; refine awp_block ?_
  refine awp_loop (fun k Y => ∃ (d1 e1 : List ByteArray), k = e1.length ∧ l = d1 ++ e1 ∧ Y = ⟨[(0, .d (.sl 1 (strs l))), (1, .d (.sl 1 (strs l))), (5, .d (num d1.length))], []⟩) (l.length) (⟨[], l, rfl, rfl, rfl⟩) ?_
  rintro k Y ⟨d1, e1, rfl, hl1, rfl⟩
  have hll1 : (strs l).length = d1.length + e1.length := by rw [strs_length, hl1, List.length_append]
  have hdl1 : d1.length + e1.length ≤ 1073741824 := by rw [hl1, List.length_append] at hb; exact hb
  refine awp_seq ?_; refine awp_seq ?_; refine rgn fun pan K hp hK => ?_; refine hK _ ?_; clear hK hp K pan; refine awp_norm [0, 1, 5, 14] rfl rfl ?_
  refine awp_cond2 rfl (onB_intro (fun h2 => ?_) (fun h2 => ?_))
  · have h2' := of_decide_eq_true h2
    rw [hll1] at h2'
    cases e1 with
    | nil => simp only [List.length_nil] at h2'; omega
    | cons x e1b =>
    subst hl1
    simp only [List.length_cons] at hdl1
    refine awp_skip ?_; refine awp_seq ?_; refine awp_block ?_; refine awp_seq ?_
    refine (awp_draw TT_ok mixed p38_6 [] (fun _ => true) (by kernel_rfl) fun pan K hp hK => ?_)
    refine And.intro (by omega) (Exists.intro _ (And.intro (str_at rfl) ?_))
    refine And.intro (by omega) (Exists.intro _ (And.intro (str_at rfl) ?_))
    refine hK _ ?_; clear hK hp K pan; refine awp_norm [0, 1, 5, 25] rfl rfl ?_
    refine awp_cond2 rfl (onB_intro (fun h3 => ?_) (fun h3 => ?_))
    · simp at h3
    refine awp_skip ?_; refine rgn fun pan K hp hK => ?_; refine hK _ ?_; clear hK hp K pan
    exact ⟨_, Nat.lt_succ_self _, _, sub_norm (slots := [0, 1, 5]) rfl rfl, d1 ++ [x], e1b, rfl, by simp, by rw [List.length_append, wrapId (by omega) (by omega)]; rfl⟩
  have h2' := of_decide_eq_false h2
  rw [hll1] at h2'
  obtain rfl : e1 = [] := List.eq_nil_of_length_eq_zero (by omega)
  rw [List.append_nil] at hl1
  subst hl1
  refine awp_exit ?_
  refine awp_norm [] rfl rfl ?_; refine awp_seq ?_; refine rgn fun pan K hp hK => ?_; refine hK _ ?_; clear hK hp K pan; refine awp_norm [4] rfl rfl ?_; refine awp_ret ?_
  exact ⟨_, [], _, [.d (.s (.bool true))], rfl, rfl, rfl, rfl, rfl, PWs.refl _, rfl⟩
def SaE (G : Glob) (m : Nat) : Prop := ∀ l : List Ex, fuL l < m → wtL l ≤ 1000000000 → Spec Tryz.prog G 70 [.d (.sl 4 (exs l)), .d (.sl 4 (exs l))] [] (.ret (.d (.s (.bool true)))) []
def p70_6 : Plan := (.take 0 (.take 1 (.take 2 (.take 3 (.load 4 (.take 5 (.take 6 (.take 7 (.take 8 (.load 9 (.one 10 (.take 11 .done))))))))))))
def p70_7 : Plan := (.take 0 (.take 1 (.take 2 (.take 3 (.take 4 (.take 5 (.take 6 (.load 7 (.take 8 (.take 9 (.take 10 (.take 11 (.load 12 (.take 13 (.take 14 (.take 15 (.take 16 (.take 17 (.take 18 (.take 19 (.load 20 (.take 21 (.take 22 (.take 23 (.take 24 (.load 25 (.take 26 (.take 27 (.take 28 (.take 29 (.take 30 (.take 31 (.take 32 (.load 33 (.take 34 (.take 35 (.take 36 (.take 37 (.load 38 (.take 39 (.take 40 .done)))))))))))))))))))))))))))))))))))))))))
theorem sameExprs_step (G : Glob) (m : Nat) (ih : SaE G m) : SaE G (m + 1) := by
  intro l hf hw
  have hlen := wtL_len l
  have hb : l.length ≤ 1073741824 := by omega
  refine spec_of_awp2 TT_ok (N := 70) Tryz.func70 rfl (by rfl) (Nat.le_refl _) rfl ?_
  refine awp_seq ?_; refine rgn fun pan K hp hK => ?_; refine hK _ ?_; clear hK hp K pan; refine awp_norm [0, 1] rfl rfl ?_; refine awp_seq ?_; refine awp_seq ?_; refine rgn fun pan K hp hK => ?_; refine hK _ ?_; clear hK hp K pan; refine awp_norm [0, 1, 11] rfl rfl ?_
  refine awp_cond2 rfl (onB_intro (fun h1 => ?_) (fun h1 => ?_))
  · simp at h1
  refine awp_skip ?_; refine awp_seq ?_; refine awp_seq ?_; refine rgn fun pan K hp hK => ?_; refine hK _ ?_; clear hK hp K pan; refine awp_norm [0, 1, 5] rfl rfl ?_; refine awp_block ?_
  refine awp_loop (fun k Y => ∃ (d1 e1 : List Ex), k = e1.length ∧ l = d1 ++ e1 ∧ Y = ⟨[(0, .d (.sl 4 (exs l))), (1, .d (.sl 4 (exs l))), (5, .d (num d1.length))], []⟩) (l.length) (⟨[], l, rfl, rfl, rfl⟩) ?_
  rintro k Y ⟨d1, e1, rfl, hl1, rfl⟩
  have hll1 : (exs l).length = d1.length + e1.length := by rw [ex_len, hl1, List.length_append]
  have hdl1 : d1.length + e1.length ≤ 1073741824 := by rw [hl1, List.length_append] at hb; exact hb
  refine awp_seq ?_; refine awp_seq ?_; refine rgn fun pan K hp hK => ?_; refine hK _ ?_; clear hK hp K pan; refine awp_norm [0, 1, 5, 15] rfl rfl ?_
  refine awp_cond2 rfl (onB_intro (fun h2 => ?_) (fun h2 => ?_))
  · have h2' := of_decide_eq_true h2
    rw [hll1] at h2'
    cases e1 with
    | nil => simp only [List.length_nil] at h2'; omega
    | cons x e1b =>
    obtain ⟨p1, n1, m1, l1⟩ := x
    subst hl1
    simp only [List.length_cons] at hdl1
    have hfx : fuL l1 < m := by rw [fuL_app] at hf; simp only [fuL, fuE] at hf; omega
    have hwx : wtL l1 ≤ 1000000000 := by rw [wtL_app] at hw; simp only [wtL, wtE] at hw; omega
    refine awp_skip ?_; refine awp_seq ?_; refine awp_block ?_; refine awp_seq ?_
    refine (awp_draw TT_ok mixed p70_6 [10] (fun _ => true) (by kernel_rfl) fun pan K hp hK => ?_)
    refine And.intro (by omega) (Exists.intro _ (And.intro (exs_at rfl) ?_))
    refine And.intro (by omega) (Exists.intro _ (And.intro (exs_at rfl) ?_))
    show aCall _ _ _ _ _ _ _
    refine aCall_ret (L := []) rfl rfl rfl (ih l1 hfx hwx) rfl rfl rfl rfl ?_
    refine hK _ ?_; clear hK hp K pan; refine awp_norm [0, 1, 5, 6] rfl rfl ?_; refine awp_seq ?_
    refine (awp_draw TT_ok mixed p70_7 [] (fun _ => true) (by kernel_rfl) fun pan K hp hK => ?_)
    refine And.intro (by omega) (Exists.intro _ (And.intro (exs_at rfl) ?_))
    refine And.intro (by omega) (Exists.intro _ (And.intro (exs_at rfl) ?_))
    refine onB_intro (fun h3 => ?_) (fun h3 => ?_)
    · simp at h3
    refine And.intro (by omega) (Exists.intro _ (And.intro (exs_at rfl) ?_))
    refine And.intro (by omega) (Exists.intro _ (And.intro (exs_at rfl) ?_))
    refine onB_intro (fun h4 => ?_) (fun h4 => ?_)
    · simp at h4
    refine And.intro (by omega) (Exists.intro _ (And.intro (exs_at rfl) ?_))
    refine And.intro (by omega) (Exists.intro _ (And.intro (exs_at rfl) ?_))
    refine hK _ ?_; clear hK hp K pan; refine awp_norm [0, 1, 5, 69] rfl rfl ?_
    refine awp_cond2 rfl (onB_intro (fun h5 => ?_) (fun h5 => ?_))
    · simp at h5
    refine awp_skip ?_; refine rgn fun pan K hp hK => ?_; refine hK _ ?_; clear hK hp K pan
    exact ⟨_, Nat.lt_succ_self _, _, sub_norm (slots := [0, 1, 5]) rfl rfl, d1 ++ [.mk p1 n1 m1 l1], e1b, rfl, by simp, by rw [List.length_append, wrapId (by omega) (by omega)]; rfl⟩
  have h2' := of_decide_eq_false h2
  rw [hll1] at h2'
  obtain rfl : e1 = [] := List.eq_nil_of_length_eq_zero (by omega)
  rw [List.append_nil] at hl1
  subst hl1
  refine awp_exit ?_
  refine awp_norm [] rfl rfl ?_; refine awp_seq ?_; refine rgn fun pan K hp hK => ?_; refine hK _ ?_; clear hK hp K pan; refine awp_norm [4] rfl rfl ?_; refine awp_ret ?_
  exact ⟨_, [], _, [.d (.s (.bool true))], rfl, rfl, rfl, rfl, rfl, PWs.refl _, rfl⟩
theorem sameExprs_spec (G : Glob) : ∀ m, SaE G m
  | 0 => fun l h => absurd h (by omega)
  | m + 1 => sameExprs_step G m (sameExprs_spec G m)
theorem sameExprs_all (G : Glob) (l : List Ex) (hw : wtL l ≤ 1000000000) : Spec Tryz.prog G 70 [.d (.sl 4 (exs l)), .d (.sl 4 (exs l))] [] (.ret (.d (.s (.bool true)))) [] := sameExprs_spec G (fuL l + 1) l (Nat.lt_succ_self _) hw
def p129_6 : Plan := (.take 0 (.take 1 (.take 2 (.take 3 (.load 4 (.take 5 (.take 6 (.take 7 (.take 8 (.load 9 (.take 11 (.take 12 (.take 13 (.take 14 (.load 15 (.take 16 (.take 17 (.take 18 (.take 19 (.load 20 (.alt 10 (.one 21 (.one 22 (.take 23 .done))) (.alt 21 (.one 10 (.one 22 (.take 23 .done))) .done))))))))))))))))))))))
def p129_7 : Plan := (.take 0 (.take 1 (.take 2 (.take 3 (.take 4 (.take 5 (.take 6 (.load 7 (.take 8 (.take 9 (.take 10 (.take 11 (.load 12 (.take 13 (.take 14 .done)))))))))))))))
theorem sameTests_spec (G : Glob) (l : List Ts) (hw : wtR l ≤ 900000000) : Spec Tryz.prog G 129 [.d (.sl 9 (tss l)), .d (.sl 9 (tss l))] [] (.ret (.d (.s (.bool true)))) [] := by
  have hlen := wtR_len l
  have hb : l.length ≤ 1073741824 := by omega
  refine spec_of_awp2 TT_ok (N := 56) Tryz.func129 rfl (by rfl) (Nat.le_refl _) rfl ?_
  refine awp_seq ?_; refine rgn fun pan K hp hK => ?_; refine hK _ ?_; clear hK hp K pan; refine awp_norm [0, 1] rfl rfl ?_; refine awp_seq ?_; refine awp_seq ?_; refine rgn fun pan K hp hK => ?_; refine hK _ ?_; clear hK hp K pan; refine awp_norm [0, 1, 11] rfl rfl ?_
  refine awp_cond2 rfl (onB_intro (fun h1 => ?_) (fun h1 => ?_))
  · simp at h1
  refine awp_skip ?_; refine awp_seq ?_; refine awp_seq ?_; refine rgn fun pan K hp hK => ?_; refine hK _ ?_; clear hK hp K pan; refine awp_norm [0, 1, 5] rfl rfl ?_; refine awp_block ?_
  refine awp_loop (fun k Y => ∃ (d1 e1 : List Ts), k = e1.length ∧ l = d1 ++ e1 ∧ Y = ⟨[(0, .d (.sl 9 (tss l))), (1, .d (.sl 9 (tss l))), (5, .d (num d1.length))], []⟩) (l.length) (⟨[], l, rfl, rfl, rfl⟩) ?_
  rintro k Y ⟨d1, e1, rfl, hl1, rfl⟩
  have hll1 : (tss l).length = d1.length + e1.length := by rw [tss_len3, hl1, List.length_append]
  have hdl1 : d1.length + e1.length ≤ 1073741824 := by rw [hl1, List.length_append] at hb; exact hb
  refine awp_seq ?_; refine awp_seq ?_; refine rgn fun pan K hp hK => ?_; refine hK _ ?_; clear hK hp K pan; refine awp_norm [0, 1, 5, 15] rfl rfl ?_
  refine awp_cond2 rfl (onB_intro (fun h2 => ?_) (fun h2 => ?_))
  · have h2' := of_decide_eq_true h2
    rw [hll1] at h2'
    cases e1 with
    | nil => simp only [List.length_nil] at h2'; omega
    | cons x e1b =>
    obtain ⟨⟨p1, n1, m1, l1⟩, rel, ⟨p2, n2, m2, l2⟩⟩ := x
    subst hl1
    simp only [List.length_cons] at hdl1
    have hx := wtR_app d1 (⟨.mk p1 n1 m1 l1, rel, .mk p2 n2 m2 l2⟩ :: e1b)
    rw [wtR, wtT] at hx
    simp only [wtE] at hx
    refine awp_skip ?_; refine awp_seq ?_; refine awp_block ?_; refine awp_seq ?_
    refine (awp_draw TT_ok mixed p129_6 [22] (fun _ => true) (by kernel_rfl) fun pan K hp hK => ?_)
    refine And.intro (by omega) (Exists.intro _ (And.intro (tss_at rfl) ?_))
    refine And.intro (by omega) (Exists.intro _ (And.intro (tss_at rfl) ?_))
    refine And.intro (by omega) (Exists.intro _ (And.intro (tss_at rfl) ?_))
    refine And.intro (by omega) (Exists.intro _ (And.intro (tss_at rfl) ?_))
    refine And.intro ?_ ?_
    · show aCall _ _ _ _ _ _ _
      refine aCall_ret (L := []) rfl rfl rfl (sameExprs_all G [.mk p1 n1 m1 l1, .mk p2 n2 m2 l2] (by simp only [wtL, wtE]; omega)) rfl rfl rfl rfl ?_
      refine hK _ ?_; clear hK hp K pan; refine awp_norm [0, 1, 5, 6] rfl rfl ?_; refine awp_seq ?_
      refine (awp_draw TT_ok mixed p129_7 [] (fun _ => true) (by kernel_rfl) fun pan K hp hK => ?_)
      refine And.intro (by omega) (Exists.intro _ (And.intro (tss_at rfl) ?_))
      refine And.intro (by omega) (Exists.intro _ (And.intro (tss_at rfl) ?_))
      refine hK _ ?_; clear hK hp K pan; refine awp_norm [0, 1, 5, 55] rfl rfl ?_
      refine awp_cond2 rfl (onB_intro (fun h3 => ?_) (fun h3 => ?_))
      · simp at h3
      refine awp_skip ?_; refine rgn fun pan K hp hK => ?_; refine hK _ ?_; clear hK hp K pan
      exact ⟨_, Nat.lt_succ_self _, _, sub_norm (slots := [0, 1, 5]) rfl rfl, d1 ++ [⟨.mk p1 n1 m1 l1, rel, .mk p2 n2 m2 l2⟩], e1b, rfl, by simp, by rw [List.length_append, wrapId (by omega) (by omega)]; rfl⟩
    refine And.intro ?_ ?_
    · show aCall _ _ _ _ _ _ _
      refine aCall_ret (L := []) rfl rfl rfl (sameExprs_all G [.mk p1 n1 m1 l1, .mk p2 n2 m2 l2] (by simp only [wtL, wtE]; omega)) rfl rfl rfl rfl ?_
      refine hK _ ?_; clear hK hp K pan; refine awp_norm [0, 1, 5, 6] rfl rfl ?_; refine awp_seq ?_
      refine (awp_draw TT_ok mixed p129_7 [] (fun _ => true) (by kernel_rfl) fun pan K hp hK => ?_)
      refine And.intro (by omega) (Exists.intro _ (And.intro (tss_at rfl) ?_))
      refine And.intro (by omega) (Exists.intro _ (And.intro (tss_at rfl) ?_))
      refine hK _ ?_; clear hK hp K pan; refine awp_norm [0, 1, 5, 55] rfl rfl ?_
      refine awp_cond2 rfl (onB_intro (fun h3 => ?_) (fun h3 => ?_))
      · simp at h3
      refine awp_skip ?_; refine rgn fun pan K hp hK => ?_; refine hK _ ?_; clear hK hp K pan
      exact ⟨_, Nat.lt_succ_self _, _, sub_norm (slots := [0, 1, 5]) rfl rfl, d1 ++ [⟨.mk p1 n1 m1 l1, rel, .mk p2 n2 m2 l2⟩], e1b, rfl, by simp, by rw [List.length_append, wrapId (by omega) (by omega)]; rfl⟩
    trivial
  have h2' := of_decide_eq_false h2
  rw [hll1] at h2'
  obtain rfl : e1 = [] := List.eq_nil_of_length_eq_zero (by omega)
  rw [List.append_nil] at hl1
  subst hl1
  refine awp_exit ?_
  refine awp_norm [] rfl rfl ?_; refine awp_seq ?_; refine rgn fun pan K hp hK => ?_; refine hK _ ?_; clear hK hp K pan; refine awp_norm [4] rfl rfl ?_; refine awp_ret ?_
  exact ⟨_, [], _, [.d (.s (.bool true))], rfl, rfl, rfl, rfl, rfl, PWs.refl _, rfl⟩
def SaS (G : Glob) (m : Nat) : Prop := ∀ l : List Sm, fuB l < m → wtB l ≤ 900000000 → Spec Tryz.prog G 69 [.d (.sl 7 (sms l)), .d (.sl 7 (sms l))] [] (.ret (.d (.s (.bool true)))) []
set_option maxHeartbeats 1000000
def p69_13 : Plan := (.take 0 (.load 1 (.take 2 (.take 3 (.load 4 (.take 5 (.load 6 (.take 7 (.take 8 (.load 9 (.one 10 (.take 11 .done))))))))))))
theorem sameStmts_step (G : Glob) (m : Nat) (ih : SaS G m) : SaS G (m + 1) := by
  intro l hf hw
  have hlen := wtB_len l
  have hb : l.length ≤ 1073741824 := by omega
  refine spec_of_awp2 TT_ok (N := 105) Tryz.func69 rfl (by rfl) (Nat.le_refl _) rfl ?_
  refine awp_seq ?_; refine rgn fun pan K hp hK => ?_; refine hK _ ?_; clear hK hp K pan; refine awp_norm [0, 1] rfl rfl ?_; refine awp_seq ?_; refine awp_seq ?_; refine rgn fun pan K hp hK => ?_; refine hK _ ?_; clear hK hp K pan; refine awp_norm [0, 1, 17] rfl rfl ?_
  refine awp_cond2 rfl (onB_intro (fun h1 => ?_) (fun h1 => ?_))
  · simp at h1
  refine awp_skip ?_; refine awp_seq ?_; refine awp_seq ?_; refine rgn fun pan K hp hK => ?_; refine hK _ ?_; clear hK hp K pan; refine awp_norm [0, 1, 5] rfl rfl ?_; refine awp_block ?_
  refine awp_loop (fun k Y => ∃ (d1 e1 : List Sm), k = e1.length ∧ l = d1 ++ e1 ∧ Y = ⟨[(0, .d (.sl 7 (sms l))), (1, .d (.sl 7 (sms l))), (5, .d (num d1.length))], []⟩) (l.length) (⟨[], l, rfl, rfl, rfl⟩) ?_
  rintro k Y ⟨d1, e1, rfl, hl1, rfl⟩
  have hll1 : (sms l).length = d1.length + e1.length := by rw [sms_len2, hl1, List.length_append]
  have hdl1 : d1.length + e1.length ≤ 1073741824 := by rw [hl1, List.length_append] at hb; exact hb
  refine awp_seq ?_; refine awp_seq ?_; refine rgn fun pan K hp hK => ?_; refine hK _ ?_; clear hK hp K pan; refine awp_norm [0, 1, 5, 21] rfl rfl ?_
  refine awp_cond2 rfl (onB_intro (fun h2 => ?_) (fun h2 => ?_))
  · have h2' := of_decide_eq_true h2
    rw [hll1] at h2'
    cases e1 with
    | nil => simp only [List.length_nil] at h2'; omega
    | cons x e1b =>
    obtain ⟨kind, name, proc, args, cond, body, els⟩ := x
    subst hl1
    simp only [List.length_cons] at hdl1
    have hfx := fuB_app d1 (.mk kind name proc args cond body els :: e1b)
    have hwx := wtB_app d1 (.mk kind name proc args cond body els :: e1b)
    simp only [fuB, fuS, wtB, wtS] at hfx hwx
    have hfb := fuB_ge body
    have hfe := fuB_ge els
    have hcl := wtC_len cond
    have hb2 : cond.length ≤ 1073741824 := by omega
    refine awp_skip ?_; refine awp_seq ?_; refine awp_block ?_; refine awp_seq ?_; refine rgn fun pan K hp hK => ?_
    refine And.intro (by omega) (Exists.intro _ (And.intro (sms_at2 rfl) ?_))
    refine hK _ ?_; clear hK hp K pan; refine awp_norm [0, 1, 5, 6] rfl rfl ?_; refine awp_seq ?_; refine rgn fun pan K hp hK => ?_
    refine And.intro (by omega) (Exists.intro _ (And.intro (sms_at2 rfl) ?_))
    refine hK _ ?_; clear hK hp K pan; refine awp_norm [0, 1, 5, 6, 7] rfl rfl ?_; refine awp_seq ?_; refine awp_seq ?_; refine rgn fun pan K hp hK => ?_
    refine onB_intro (fun h3 => ?_) (fun h3 => ?_)
    · simp at h3
    refine onB_intro (fun h4 => ?_) (fun h4 => ?_)
    · simp at h4
    refine onB_intro (fun h5 => ?_) (fun h5 => ?_)
    · simp at h5
    refine hK _ ?_; clear hK hp K pan; refine awp_norm [0, 1, 5, 6, 7, 59] rfl rfl ?_
    refine awp_cond2 rfl (onB_intro (fun h6 => ?_) (fun h6 => ?_))
    · simp at h6
    refine awp_skip ?_; refine awp_seq ?_; refine awp_seq ?_; refine rgn fun pan K hp hK => ?_; refine hK _ ?_; clear hK hp K pan; refine awp_norm [0, 1, 5, 6, 7, 8] rfl rfl ?_; refine awp_block ?_
    refine awp_loop (fun k Y => ∃ (d2 e2 : List (List Ts)), k = e2.length ∧ cond = d2 ++ e2 ∧ Y = ⟨[(0, .d (.sl 7 (sms (d1 ++ .mk kind name proc args cond body els :: e1b)))), (1, .d (.sl 7 (sms (d1 ++ .mk kind name proc args cond body els :: e1b)))), (5, .d (num d1.length)), (6, .box 0 0), (7, .box 1 0), (8, .d (num d2.length))], [.box 228 [.d (str kind), .d (str name), .d (str proc), .d (.sl 4 (exs args)), .d (.sl 1 (cnd cond)), .d (.sl 7 (sms body)), .d (.sl 7 (sms els))], .box 228 [.d (str kind), .d (str name), .d (str proc), .d (.sl 4 (exs args)), .d (.sl 1 (cnd cond)), .d (.sl 7 (sms body)), .d (.sl 7 (sms els))]]⟩) (cond.length) (⟨[], cond, rfl, rfl, rfl⟩) ?_
    rintro k Y ⟨d2, e2, rfl, hl2, rfl⟩
    have hll2 : (cnd cond).length = d2.length + e2.length := by rw [cnd_len3, hl2, List.length_append]
    have hdl2 : d2.length + e2.length ≤ 1073741824 := by rw [hl2, List.length_append] at hb2; exact hb2
    refine awp_seq ?_; refine awp_seq ?_; refine rgn fun pan K hp hK => ?_; refine hK _ ?_; clear hK hp K pan; refine awp_norm [0, 1, 5, 6, 7, 8, 64] rfl rfl ?_
    refine awp_cond2 rfl (onB_intro (fun h7 => ?_) (fun h7 => ?_))
    · have h7' := of_decide_eq_true h7
      rw [hll2] at h7'
      cases e2 with
      | nil => simp only [List.length_nil] at h7'; omega
      | cons x e2b =>
      subst hl2
      simp only [List.length_cons] at hdl2
      have hcx := wtC_app d2 (x :: e2b)
      simp only [wtC] at hcx
      refine awp_skip ?_; refine awp_seq ?_; refine awp_block ?_; refine awp_seq ?_
      refine (awp_draw TT_ok mixed p69_13 [10] (fun i => Nat.beq i 0 || Nat.beq i 1) (by kernel_rfl) fun pan K hp hK => ?_)
      refine And.intro (by omega) (Exists.intro _ (And.intro (cnd_at rfl) ?_))
      refine And.intro (by omega) (Exists.intro _ (And.intro (cnd_at rfl) ?_))
      show aCall _ _ _ _ _ _ _
      refine aCall_ret (L := []) rfl rfl rfl (sameTests_spec G x (by omega)) rfl rfl rfl rfl ?_
      refine hK _ ?_; clear hK hp K pan; refine awp_norm [0, 1, 5, 6, 7, 8, 9] rfl rfl ?_; refine awp_seq ?_; refine rgn fun pan K hp hK => ?_; refine hK _ ?_; clear hK hp K pan; refine awp_norm [0, 1, 5, 6, 7, 8, 79] rfl rfl ?_; refine awp_cond rfl ?_; refine awp_skip ?_; refine rgn fun pan K hp hK => ?_; refine hK _ ?_; clear hK hp K pan
      exact ⟨_, Nat.lt_succ_self _, _, sub_pick (L := [0, 1]) (slots := [0, 1, 5, 6, 7, 8]) rfl rfl rfl rfl rfl, d2 ++ [x], e2b, rfl, by simp, by rw [List.length_append, wrapId (by omega) (by omega)]; rfl⟩
    have h7' := of_decide_eq_false h7
    rw [hll2] at h7'
    obtain rfl : e2 = [] := List.eq_nil_of_length_eq_zero (by omega)
    rw [List.append_nil] at hl2
    subst hl2
    refine awp_exit ?_
    refine awp_norm [0, 1, 5, 6, 7] rfl rfl ?_; refine awp_seq ?_; refine rgn fun pan K hp hK => ?_; show aCall _ _ _ _ _ _ _
    refine aCall_ret (L := []) rfl rfl rfl (sameExprs_all G args (by omega)) rfl rfl rfl rfl ?_
    refine hK _ ?_; clear hK hp K pan; refine awp_norm [0, 1, 5, 6, 7, 10] rfl rfl ?_; refine awp_seq ?_; refine rgn fun pan K hp hK => ?_; show aCall _ _ _ _ _ _ _
    refine aCall_ret (L := []) rfl rfl rfl (ih body (by omega) (by omega)) rfl rfl rfl rfl ?_
    refine hK _ ?_; clear hK hp K pan; refine awp_norm [0, 1, 5, 6, 7, 10, 11] rfl rfl ?_; refine awp_seq ?_; refine rgn fun pan K hp hK => ?_; show aCall _ _ _ _ _ _ _
    refine aCall_ret (L := []) rfl rfl rfl (ih els (by omega) (by omega)) rfl rfl rfl rfl ?_
    refine hK _ ?_; clear hK hp K pan; refine awp_norm [0, 1, 5, 10, 11, 12] rfl rfl ?_; refine awp_seq ?_; refine rgn fun pan K hp hK => ?_; refine hK _ ?_; clear hK hp K pan; refine awp_norm [0, 1, 5, 104] rfl rfl ?_; refine awp_cond rfl ?_; refine awp_skip ?_; refine rgn fun pan K hp hK => ?_; refine hK _ ?_; clear hK hp K pan
    exact ⟨_, Nat.lt_succ_self _, _, sub_pick (L := []) (slots := [0, 1, 5]) rfl rfl rfl rfl rfl, d1 ++ [.mk kind name proc args cond body els], e1b, rfl, by simp, by rw [List.length_append, wrapId (by omega) (by omega)]; rfl⟩
  have h2' := of_decide_eq_false h2
  rw [hll1] at h2'
  obtain rfl : e1 = [] := List.eq_nil_of_length_eq_zero (by omega)
  rw [List.append_nil] at hl1
  subst hl1
  refine awp_exit ?_
  refine awp_norm [] rfl rfl ?_; refine awp_seq ?_; refine rgn fun pan K hp hK => ?_; refine hK _ ?_; clear hK hp K pan; refine awp_norm [4] rfl rfl ?_; refine awp_ret ?_
  exact ⟨_, [], _, [.d (.s (.bool true))], rfl, rfl, rfl, rfl, rfl, PWs.refl _, rfl⟩
theorem sameStmts_spec (G : Glob) : ∀ m, SaS G m
  | 0 => fun l h => absurd h (by omega)
  | m + 1 => sameStmts_step G m (sameStmts_spec G m)
theorem sameStmts_all (G : Glob) (l : List Sm) (hw : wtB l ≤ 900000000) : Spec Tryz.prog G 69 [.d (.sl 7 (sms l)), .d (.sl 7 (sms l))] [] (.ret (.d (.s (.bool true)))) [] := sameStmts_spec G (fuB l + 1) l (Nat.lt_succ_self _) hw
theorem sameProg_spec (G : Glob) (hA : ∀ l : List Ar, l.length ≤ 1073741824 → Spec Tryz.prog G 68 [.d (.sl 2 (ars l)), .d (.sl 2 (ars l))] [] (.ret (.d (.s (.bool true)))) []) (p : Pg) (hw : wtPg p ≤ 900000000) : Spec Tryz.prog G 20 [.d (.agg p.cs), .d (.agg p.cs)] [] (.ret (.d (.s (.bool true)))) [] := by
  obtain ⟨vars, arrays, procs, main⟩ := p
  simp only [wtPg] at hw
  have h1 := wtV_len vars
  have h2 := wtA_len arrays
  have h3 := wtP_len procs
  have hb1 : arrays.length ≤ 1073741824 := by omega
  have hb2 : procs.length ≤ 1073741824 := by omega
  refine spec_of_awp2 TT_ok (N := 94) Tryz.func20 rfl (by rfl) (Nat.le_refl _) rfl ?_
  refine awp_seq ?_; refine rgn fun pan K hp hK => ?_; refine hK _ ?_; clear hK hp K pan; refine awp_norm [2, 3] rfl rfl ?_; refine awp_seq ?_; refine rgn fun pan K hp hK => ?_; show aCall _ _ _ _ _ _ _
  refine aCall_ret (L := []) rfl rfl rfl (sameStrs_spec G vars (by omega)) rfl rfl rfl rfl ?_
  refine hK _ ?_; clear hK hp K pan; refine awp_norm [2, 3, 5] rfl rfl ?_; refine awp_seq ?_; refine rgn fun pan K hp hK => ?_; show aCall _ _ _ _ _ _ _
  refine aCall_ret (L := []) rfl rfl rfl (hA arrays (by omega)) rfl rfl rfl rfl ?_
  refine hK _ ?_; clear hK hp K pan; refine awp_norm [2, 3, 5, 6] rfl rfl ?_; refine awp_seq ?_; refine awp_seq ?_; refine rgn fun pan K hp hK => ?_; refine hK _ ?_; clear hK hp K pan; refine awp_norm [2, 3, 37] rfl rfl ?_
  refine awp_cond2 rfl (onB_intro (fun h1 => ?_) (fun h1 => ?_))
  · simp at h1
  refine awp_skip ?_; refine awp_seq ?_; refine awp_seq ?_; refine rgn fun pan K hp hK => ?_; refine hK _ ?_; clear hK hp K pan; refine awp_norm [2, 3, 7] rfl rfl ?_; refine awp_block ?_
  refine awp_loop (fun k Y => ∃ (d1 e1 : List Pc), k = e1.length ∧ procs = d1 ++ e1 ∧ Y = ⟨[(2, .box 0 0), (3, .box 1 0), (7, .d (num d1.length))], [.box 37 [.d (.sl 1 (strs vars)), .d (.sl 2 (ars arrays)), .d (.sl 7 (pcs procs)), .d (.sl 7 (sms main))], .box 37 [.d (.sl 1 (strs vars)), .d (.sl 2 (ars arrays)), .d (.sl 7 (pcs procs)), .d (.sl 7 (sms main))]]⟩) (procs.length) (⟨[], procs, rfl, rfl, rfl⟩) ?_
  rintro k Y ⟨d1, e1, rfl, hl1, rfl⟩
  have hll1 : (pcs procs).length = d1.length + e1.length := by rw [pcs, List.length_map, hl1, List.length_append]
  have hdl1 : d1.length + e1.length ≤ 1073741824 := by rw [hl1, List.length_append] at hb2; exact hb2
  refine awp_seq ?_; refine awp_seq ?_; refine rgn fun pan K hp hK => ?_; refine hK _ ?_; clear hK hp K pan; refine awp_norm [2, 3, 7, 42] rfl rfl ?_
  refine awp_cond2 rfl (onB_intro (fun h2 => ?_) (fun h2 => ?_))
  · have h2' := of_decide_eq_true h2
    rw [hll1] at h2'
    cases e1 with
    | nil => simp only [List.length_nil] at h2'; omega
    | cons x e1b =>
    obtain ⟨nm, ps, bd, rt⟩ := x
    obtain ⟨p1, n1, m1, l1⟩ := rt
    subst hl1
    simp only [List.length_cons] at hdl1
    have hpx := wtP_app d1 (⟨nm, ps, bd, .mk p1 n1 m1 l1⟩ :: e1b)
    simp only [wtP, wtE] at hpx
    have hpl := wtV_len ps
    refine awp_skip ?_; refine awp_seq ?_; refine awp_block ?_; refine awp_seq ?_; refine rgn fun pan K hp hK => ?_
    refine And.intro (by omega) (Exists.intro _ (And.intro (pcs_at rfl) ?_))
    refine hK _ ?_; clear hK hp K pan; refine awp_norm [2, 3, 7, 8] rfl rfl ?_; refine awp_seq ?_; refine rgn fun pan K hp hK => ?_
    refine And.intro (by omega) (Exists.intro _ (And.intro (pcs_at rfl) ?_))
    refine hK _ ?_; clear hK hp K pan; refine awp_norm [2, 3, 7, 8, 9] rfl rfl ?_; refine awp_seq ?_; refine rgn fun pan K hp hK => ?_; show aCall _ _ _ _ _ _ _
    refine aCall_ret (L := []) rfl rfl rfl (sameStrs_spec G ps (by omega)) rfl rfl rfl rfl ?_
    refine hK _ ?_; clear hK hp K pan; refine awp_norm [2, 3, 7, 8, 9, 10] rfl rfl ?_; refine awp_seq ?_; refine rgn fun pan K hp hK => ?_; show aCall _ _ _ _ _ _ _
    refine aCall_ret (L := []) rfl rfl rfl (sameStmts_all G bd (by omega)) rfl rfl rfl rfl ?_
    refine hK _ ?_; clear hK hp K pan; refine awp_norm [2, 3, 7, 8, 9, 10, 11] rfl rfl ?_; refine awp_seq ?_; refine rgn fun pan K hp hK => ?_; show aCall _ _ _ _ _ _ _
    refine aCall_ret (L := []) rfl rfl rfl (sameExprs_all G [.mk p1 n1 m1 l1] (by simp only [wtL, wtE]; omega)) rfl rfl rfl rfl ?_
    refine hK _ ?_; clear hK hp K pan; refine awp_norm [2, 3, 7, 8, 9, 10, 11, 12] rfl rfl ?_; refine awp_seq ?_; refine rgn fun pan K hp hK => ?_
    refine onB_intro (fun h3 => ?_) (fun h3 => ?_)
    · simp at h3
    refine hK _ ?_; clear hK hp K pan; refine awp_norm [2, 3, 7, 88] rfl rfl ?_; refine awp_cond rfl ?_; refine awp_skip ?_; refine rgn fun pan K hp hK => ?_; refine hK _ ?_; clear hK hp K pan
    exact ⟨_, Nat.lt_succ_self _, _, sub_pick (L := [0, 1]) (slots := [2, 3, 7]) rfl rfl rfl rfl rfl, d1 ++ [⟨nm, ps, bd, .mk p1 n1 m1 l1⟩], e1b, rfl, by simp, by rw [List.length_append, wrapId (by omega) (by omega)]; rfl⟩
  have h2' := of_decide_eq_false h2
  rw [hll1] at h2'
  obtain rfl : e1 = [] := List.eq_nil_of_length_eq_zero (by omega)
  rw [List.append_nil] at hl1
  subst hl1
  refine awp_exit ?_
  refine awp_norm [2, 3] rfl rfl ?_; refine awp_seq ?_; refine rgn fun pan K hp hK => ?_; show aCall _ _ _ _ _ _ _
  refine aCall_ret (L := []) rfl rfl rfl (sameStmts_all G main (by omega)) rfl rfl rfl rfl ?_
  refine hK _ ?_; clear hK hp K pan; refine awp_norm [4] rfl rfl ?_; refine awp_ret ?_
  exact ⟨_, [], _, [.d (.s (.bool true))], rfl, rfl, rfl, rfl, rfl, PWs.refl _, rfl⟩
end Go.Abs
end
section
namespace Go.Abs
open Go Go.Proofs Go.Abs.PrintLast
def lin (T : Tab) (G : Glob) (N : Nat) (ops : Array Oper) : List (Bool × Nat) → (St → Prop) → St → Prop
  | [], k, X => k X
  | (true, i) :: r, k, X => takeStep T G N ops (some fun _ => true) i (lin T G N ops r k) X
  | (false, i) :: r, k, X => takeStep T G N ops none i (lin T G N ops r k) X
def linOk (ops : Array Oper) (j : Nat) : Array Bool → List (Bool × Nat) → Bool
  | listed, [] => (Region.ready .any ops listed == [j]) && (Region.ready .any ops (listed.setIfInBounds j true) == [])
  | listed, (true, i) :: r => takeB ops listed i && PrintLast.Region.closedB .any ops listed && PrintLast.Region.lastB .any ops listed [] i && linOk ops j (listed.setIfInBounds i true) r
  | listed, (false, i) :: r => takeB ops listed i && linOk ops j (listed.setIfInBounds i true) r
def linEnd (P : Program) (G : Glob) (N : Nat) (ops : Array Oper) (j : Nat) (K : St → Prop) (X : St) : Prop := ∃ o p, nth ops.toList j = some o ∧ dstOk N o.dst = true ∧ guarded ops o X (fun X1 => X1 = X) (fun _ => False) ∧ (∀ D H lim a w, Rep D G N H lim X a w → Does P none a w H lim o p) ∧ K (setE o.dst p X)
section
variable {P : Program} {T : Tab} {G : Glob} {D : List Deferred} {N B : Nat} {H H00 : Nat → Option Value} {lim lim00 : Nat → Nat} {w w00 : World} {ops : Array Oper} {Q : AExit → St → Prop}
theorem lin_sound (hT : TabOk P T) (hs : Region.noSelect ops = true) (hlk : Lk B H00 lim00 w00 H lim w) (j : Nat) : ∀ (l : List (Bool × Nat)) (fuel : Nat) (listed : Array Bool) (X : St) (a : Act), l.length + 1 ≤ fuel → Rep D G N H lim X a w → linOk ops j listed l = true → lin T G N ops l (linEnd P G N ops j (fun X => Q .normal X)) X →
    wpAnyLast P .any ops (Post D G N B Q H00 lim00 w00) (Agr (some fun _ => true) H lim w) [] fuel listed a w
  | [], fuel, listed, X, a, hf, hR, ho, h => by
    obtain ⟨n, rfl⟩ : ∃ n, fuel = n + 1 := ⟨fuel - 1, by omega⟩
    simp only [linOk, Bool.and_eq_true, beq_iff_eq] at ho
    obtain ⟨o, p, h1, h2, h3, h4, h5⟩ := h
    rw [nth_ops] at h1
    refine wpAnyLast_all ho.1 (by simp) fun i hi => ?_
    rw [List.mem_singleton.1 hi]
    unfold wpOp
    rw [h1]
    rcases guarded_sound hR h3 with ⟨hw, X1, hR1, _, rfl⟩ | ⟨_, _, _, _, q⟩
    · simp only [hw, if_true]
      obtain ⟨v, e1, e2⟩ := h4 D H lim a w hR1
      left
      unfold Oper.wp
      rw [e1 w trivial]
      exact ⟨fun _ q => q, wpAnyLast_done ho.2 ⟨_, H, lim, rep_put hR1 h2 e2, hlk, h5⟩ n⟩
    exact q.elim
  | (false, i) :: r, fuel, listed, X, a, hf, hR, ho, h => by
    obtain ⟨n, rfl⟩ : ∃ n, fuel = n + 1 := ⟨fuel - 1, by omega⟩
    simp only [linOk, takeB, Bool.and_eq_true] at ho
    simp only [lin] at h
    obtain ⟨o, v, X', h1, h2, h3, h4⟩ := take_sound hT hR h
    simp only [List.length_cons] at hf
    have hrec := lin_sound hT hs hlk j r n (listed.setIfInBounds i true) X' _ (by omega) h3 ho.2 h4
    exact wpAnyLast_any h1 (Region.noSelect_spec hs) (fun c a w q => post_put q) n listed a w (Region.free_spec h1 ho.1.2) (by simpa using ho.1.1) (h2.imp (fun ⟨q1, q2⟩ => ⟨q1, fun w1 => q2 w1 trivial⟩) id) hrec
  | (true, i) :: r, fuel, listed, X, a, hf, hR, ho, h => by
    obtain ⟨n, rfl⟩ : ∃ n, fuel = n + 1 := ⟨fuel - 1, by omega⟩
    simp only [linOk, takeB, Bool.and_eq_true] at ho
    obtain ⟨⟨⟨⟨o2, o3⟩, o4⟩, o5⟩, o6⟩ := ho
    simp only [lin] at h
    obtain ⟨o, v, X', h1, h2, h3, h4⟩ := take_sound hT hR h
    simp only [List.length_cons] at hf
    have hrec := lin_sound hT hs hlk j r n (listed.setIfInBounds i true) X' _ (by omega) h3 o6 h4
    exact wpAnyLast_take h1 hs o3 o2 o4 o5 (fun c a w q => post_put q) h2 (Agr.refl _ _ _ _) hrec
theorem awp_draw_lin (hT : TabOk P T) (hm : P.follows .mixedOrders = true) {id : Nat} {X : St} (j : Nat) (l : List (Bool × Nat)) (hp : (Region.noSelect ops && linOk ops j (Array.replicate ops.size false) l && Nat.ble (l.length + 1) ops.size) = true)
    (h : ∀ (K : St → Prop), (∀ X, Q .normal X → K X) → lin T G N ops l (linEnd P G N ops j K) X) : AWp D P G N B (.region id ops true) Q X := by
  intro H lim a w hR
  simp only [Bool.and_eq_true] at hp
  obtain ⟨⟨h1, h2⟩, h3⟩ := hp
  have hw : Rep D G N H lim X a { w with drawn := w.drawn + 1 } := by
    have hF : Fr (fun _ => False) lim w lim { w with drawn := w.drawn + 1 } := ⟨rfl, rfl, rfl, Nat.le_refl _, fun _ _ => ⟨Nat.le_refl _, fun _ _ => rfl⟩, fun _ _ _ => ⟨rfl, rfl⟩⟩
    exact ⟨env_mono hF (fun _ _ q => q) hR.env, ⟨fun id r hr => row_mono hF (fun _ _ q => q) (fun _ _ q => q) (hR.rows.row id r hr), hR.rows.apart, hR.rows.dom⟩, hR.glob.mono hF (fun _ q => q.elim) (fun _ q => .inl q), hR.defers, hR.size⟩
  have hl : Lk B H lim w H lim { w with drawn := w.drawn + 1 } := ⟨⟨rfl, rfl, rfl, Nat.le_refl _, fun _ _ => ⟨Nat.le_refl _, fun _ _ => rfl⟩, fun _ _ _ => ⟨rfl, rfl⟩⟩, fun _ _ _ _ _ => rfl, fun _ q => .inl q⟩
  exact wp_region_last hm (lin_sound hT h1 hl j l ops.size _ X a (Nat.le_of_ble_eq_true h3) hw h2 (h _ fun _ q => q))
end
noncomputable def two99 : Bool := match (Tryz.prog.fieldsOf 99).toList with
  | [f, g] => f.name != "_" && g.name != "_" && f.type == 9 && g.type == 3 && f.offset == 0 && g.offset == 1
  | _ => false
theorem two99_ok : two99 = true := by kernel_rfl
theorem part_at {t : TypeId} {ti : TI} (h : TT t = some ti) (hg : ti.desc.agg = false) (xs : Array Value) (i : Nat) (v : Value) (hv : xs[i]? = some v) (w : World) : (part t xs i).run Tryz.prog w = .ok v w := by
  have h1 := run_isAgg TT_ok h w
  rw [hg] at h1
  simp only [part, Sem.run_bind, h1, Result.andThen, Bool.false_eq_true, if_false, hv, Sem.run_pure]
theorem neq99 (m : ByteArray) (n : Int) (x y : Operand) (xs ys : Array Value) (hx : xs.toList = [.string m, .int .i64 n]) (hy : ys.toList = [.string m, .int .i64 n]) (w : World) :
    (eqGuard .neq 99 x y (.agg xs) (.agg ys)).run Tryz.prog w = .ok () w ∧ (binOp .neq 99 (.agg xs) (.agg ys)).run Tryz.prog w = .ok (.bool false) w := by
  have hm : Tryz.prog.eqGuardType Tryz.prog.depth 99 = false := by kernel_rfl
  have hu : Tryz.prog.underlying 99 = some (.struct (Tryz.prog.fieldsOf 99)) := by kernel_rfl
  have hp : Tryz.prog.stoodInHeld 99 = false := by kernel_rfl
  have h9 : Tryz.prog.underlying 9 = some .string := by kernel_rfl
  have h3 : Tryz.prog.underlying 3 = some (.int .i64) := by kernel_rfl
  have ho := two99_ok
  unfold two99 at ho
  split at ho
  · rename_i f g hf
    simp only [Bool.and_eq_true, bne_iff_ne, beq_iff_eq] at ho
    obtain ⟨⟨⟨⟨⟨o1, o2⟩, o3⟩, o4⟩, o5⟩, o6⟩ := ho
    have x0 : xs[0]? = some (.string m) := by rw [← Array.getElem?_toList, hx]; rfl
    have x1 : xs[1]? = some (.int .i64 n) := by rw [← Array.getElem?_toList, hx]; rfl
    have y0 : ys[0]? = some (.string m) := by rw [← Array.getElem?_toList, hy]; rfl
    have y1 : ys[1]? = some (.int .i64 n) := by rw [← Array.getElem?_toList, hy]; rfl
    have t9 : ∃ ti, TT 9 = some ti ∧ ti.desc.agg = false := ⟨_, rfl, rfl⟩
    have t3 : ∃ ti, TT 3 = some ti ∧ ti.desc.agg = false := ⟨_, rfl, rfl⟩
    obtain ⟨_, t9, g9⟩ := t9
    obtain ⟨_, t3, g3⟩ := t3
    have e : ∀ w, (Op.equalIn 10000 99 (.agg xs) (.agg ys)).run Tryz.prog w = .ok true w := by
      intro w
      rw [run_equalIn_struct w 9999 99 xs ys hu hp, hf]
      simp only [Op.eqFields, o3, o4, o5, o6]
      rw [if_pos o1]
      simp only [Sem.run_bind, part_at t9 g9 xs 0 _ x0, part_at t9 g9 ys 0 _ y0, Result.andThen, run_equalIn_string _ 9998 9 m m h9, beq_self_eq_true, Bool.not_true, Bool.false_eq_true, if_false]
      rw [if_pos o2]
      simp only [Sem.run_bind, part_at t3 g3 xs 1 _ x1, part_at t3 g3 ys 1 _ y1, Result.andThen, run_equalIn_int _ 9998 3 .i64 .i64 n n h3, beq_self_eq_true, Bool.not_true, Bool.false_eq_true, if_false, Sem.run_pure]
    exact ⟨run_eqGuard_agg w .neq 99 x y xs ys hm, by simp only [Result.andThen, run_neq_struct w 99 xs ys, e, Bool.not_true]⟩
  cases ho
theorem ar_V {H : Nat → Option Value} {lim : Nat → Nat} {w : World} {m : ByteArray} {n : Int} {v : Value} (h : V H lim w (.d (.agg [str m, num n])) v) : ∃ xs : Array Value, v = .agg xs ∧ xs.toList = [.string m, .int .i64 n] := by
  simp only [V, VD, VDs, str, num] at h
  obtain ⟨xs, rfl, h⟩ := h
  obtain ⟨_, _, e, rfl, _, _, rfl, rfl, rfl⟩ := h
  exact ⟨⟨xs⟩, rfl, e⟩
theorem does_neq99 {G : Glob} {D : List Deferred} {N : Nat} {H : Nat → Option Value} {lim : Nat → Nat} {X : St} {a : Act} {w : World} (hR : Rep D G N H lim X a w) {m : ByteArray} {n : Int} {o : Oper} {x y : Operand} {yt : TypeId} (ho : o.op = .binOp .neq 99 x y yt) (hx : ev G X x = some (.d (.agg [str m, num n]))) (hy : ev G X y = some (.d (.agg [str m, num n]))) :
    Does Tryz.prog none a w H lim o (.d (.s (.bool false))) := by
  obtain ⟨xs, h1, h2⟩ := ar_V (ev_sound hR hx)
  obtain ⟨ys, h3, h4⟩ := ar_V (ev_sound hR hy)
  refine ⟨.bool false, fun w1 _ => ?_, V_s _⟩
  obtain ⟨e1, e2⟩ := neq99 m n x y xs ys h2 h4 w1
  simp [execOp, ho, h1, h3, e1, e2]
attribute [local irreducible] aCall AWp Sub Spec
theorem sameArrays_spec (G : Glob) (l : List Ar) (hb : l.length ≤ 1073741824) : Spec Tryz.prog G 68 [.d (.sl 2 (ars l)), .d (.sl 2 (ars l))] [] (.ret (.d (.s (.bool true)))) [] := by
  refine spec_of_awp2 TT_ok (N := 26) Tryz.func68 rfl (by rfl) (Nat.le_refl _) rfl ?_
  refine awp_seq ?_; refine rgn fun pan K hp hK => ?_; refine hK _ ?_; clear hK hp K pan; refine awp_norm [0, 1] rfl rfl ?_; refine awp_seq ?_; refine awp_seq ?_; refine rgn fun pan K hp hK => ?_; refine hK _ ?_; clear hK hp K pan; refine awp_norm [0, 1, 10] rfl rfl ?_
  refine awp_cond2 rfl (onB_intro (fun h1 => ?_) (fun h1 => ?_))
  · simp at h1
  refine awp_skip ?_; refine awp_seq ?_; refine awp_seq ?_; refine rgn fun pan K hp hK => ?_; refine hK _ ?_; clear hK hp K pan; refine awp_norm [0, 1, 5] rfl rfl ?_; refine awp_block ?_
  refine awp_loop (fun k Y => ∃ (d1 e1 : List Ar), k = e1.length ∧ l = d1 ++ e1 ∧ Y = ⟨[(0, .d (.sl 2 (ars l))), (1, .d (.sl 2 (ars l))), (5, .d (num d1.length))], []⟩) (l.length) (⟨[], l, rfl, rfl, rfl⟩) ?_
  rintro k Y ⟨d1, e1, rfl, hl1, rfl⟩
  have hll1 : (ars l).length = d1.length + e1.length := by rw [ars_length, hl1, List.length_append]
  have hdl1 : d1.length + e1.length ≤ 1073741824 := by rw [hl1, List.length_append] at hb; exact hb
  refine awp_seq ?_; refine awp_seq ?_; refine rgn fun pan K hp hK => ?_; refine hK _ ?_; clear hK hp K pan; refine awp_norm [0, 1, 5, 14] rfl rfl ?_
  refine awp_cond2 rfl (onB_intro (fun h2 => ?_) (fun h2 => ?_))
  · have h2' := of_decide_eq_true h2
    rw [hll1] at h2'
    cases e1 with
    | nil => simp only [List.length_nil] at h2'; omega
    | cons x e1b =>
    subst hl1
    simp only [List.length_cons] at hdl1
    refine awp_skip ?_; refine awp_seq ?_; refine awp_block ?_; refine awp_seq ?_
    refine (awp_draw_lin TT_ok mixed 8 [(false, 0), (false, 1), (false, 2), (true, 3), (false, 4), (false, 5), (false, 6), (true, 7)] (by kernel_rfl) fun K hK => ?_)
    refine And.intro (by omega) (Exists.intro _ (And.intro (ars_at rfl) ?_))
    refine And.intro (by omega) (Exists.intro _ (And.intro (ars_at rfl) ?_))
    refine ⟨_, .d (.s (.bool false)), rfl, rfl, rfl, fun D H lim a w hR => does_neq99 (m := x.name) (n := x.size) hR rfl rfl rfl, ?_⟩
    refine hK _ ?_
    clear hK K
    refine awp_norm [0, 1, 5, 25] rfl rfl ?_
    refine awp_cond2 rfl (onB_intro (fun h3 => ?_) (fun h3 => ?_))
    · simp at h3
    refine awp_skip ?_; refine rgn fun pan K hp hK => ?_; refine hK _ ?_; clear hK hp K pan
    exact ⟨_, Nat.lt_succ_self _, _, sub_norm (slots := [0, 1, 5]) rfl rfl, d1 ++ [x], e1b, rfl, by simp, by rw [List.length_append, wrapId (by omega) (by omega)]; rfl⟩
  have h2' := of_decide_eq_false h2
  rw [hll1] at h2'
  obtain rfl : e1 = [] := List.eq_nil_of_length_eq_zero (by omega)
  rw [List.append_nil] at hl1
  subst hl1
  refine awp_exit ?_
  refine awp_norm [] rfl rfl ?_; refine awp_seq ?_; refine rgn fun pan K hp hK => ?_; refine hK _ ?_; clear hK hp K pan; refine awp_norm [4] rfl rfl ?_; refine awp_ret ?_
  exact ⟨_, [], _, [.d (.s (.bool true))], rfl, rfl, rfl, rfl, rfl, PWs.refl _, rfl⟩
end Go.Abs
end
section
namespace Go.Abs
open Go Go.Proofs
theorem wtV_snoc : ∀ (l : List ByteArray) (v : ByteArray), wtV (l ++ [v]) = wtV l + v.size + 60
  | [], v => by simp only [List.nil_append, wtV] <;> omega
  | x :: l, v => by simp only [List.cons_append, wtV, wtV_snoc l v] <;> omega
theorem wtA_snoc : ∀ (l : List Ar) (a : Ar), wtA (l ++ [a]) = wtA l + a.name.size + 90
  | [], v => by simp only [List.nil_append, wtA] <;> omega
  | x :: l, v => by simp only [List.cons_append, wtA, wtA_snoc l v] <;> omega
theorem okA_snoc : ∀ (l : List Ar) (a : Ar), okA (l ++ [a]) = (okA l && chkN a.size)
  | [], v => by simp [okA]
  | x :: l, v => by simp only [List.cons_append, okA, okA_snoc l v, Bool.and_assoc]
theorem wtP_snoc : ∀ (l : List Pc) (p : Pc), wtP (l ++ [p]) = wtP l + (p.name.size + 300 + wtV p.params + wtB p.body + wtE p.ret)
  | [], v => by simp only [List.nil_append, wtP] <;> omega
  | x :: l, v => by simp only [List.cons_append, wtP, wtP_snoc l v] <;> omega
theorem okP_snoc (n f : Nat) : ∀ (l : List Pc) (p : Pc), okP' n f (l ++ [p]) = (okP' n f l && ((okB n p.body && decide (fuB p.body + 1 ≤ f)) && (nmE p.ret && decide (fuE p.ret ≤ n))))
  | [], v => by simp [okP']
  | x :: l, v => by simp only [List.cons_append, okP', okP_snoc n f l v, Bool.and_assoc]
theorem varOkP (s : ByteArray) : ∀ (n : Nat) (acc : List ByteArray) (p p0 : PS s), 8 * rst s p + 1 ≤ n → rst s p ≤ rst s p0 ∧ wtV acc + 200 * rst s p ≤ 200 * rst s p0 + 1 → RG (varsL s n acc p) (fun l q => rst s q ≤ rst s p0 ∧ wtV l + 200 * rst s q ≤ 200 * rst s p0 + 1)
  | 0, acc, p, p0, hn, _ => absurd hn (by omega)
  | n + 1, acc, p, p0, hn, hr => by
    simp only [varsL]
    have hx := rst_nx p
    have z : (⟨#[118, 97, 114]⟩ : ByteArray).size = 3 := rfl
    cases h1 : eqW p.w ⟨#[118, 97, 114]⟩ with
    | false => exact hr
    | true =>
      have hs := eqW_size h1
      refine (name_rg (nx s p)).bind fun m q1 hm => ?_
      refine (take_rg _ q1).bind fun _ q2 h2 => ?_
      refine varOkP s n _ q2 p0 (by omega) ⟨by omega, ?_⟩
      rw [wtV_snoc]; omega
theorem arrOkP (s : ByteArray) : ∀ (n : Nat) (acc : List Ar) (p p0 : PS s), 8 * rst s p + 1 ≤ n → rst s p ≤ rst s p0 ∧ wtA acc + 200 * rst s p ≤ 200 * rst s p0 + 1 ∧ okA acc = true → RG (arrsL s n acc p) (fun l q => rst s q ≤ rst s p0 ∧ wtA l + 200 * rst s q ≤ 200 * rst s p0 + 1 ∧ okA l = true)
  | 0, acc, p, p0, hn, _ => absurd hn (by omega)
  | n + 1, acc, p, p0, hn, hr => by
    simp only [arrsL]
    have hx := rst_nx p
    have z : (⟨#[97, 114, 114, 97, 121]⟩ : ByteArray).size = 5 := rfl
    cases h1 : eqW p.w ⟨#[97, 114, 114, 97, 121]⟩ with
    | false => exact hr
    | true =>
      have hs := eqW_size h1
      refine (name_rg (nx s p)).bind fun m q1 hm => ?_
      refine (take_rg _ q1).bind fun _ q2 h2 => ?_
      refine (number_rg q2).bind fun k q3 hk => ?_
      refine (take_rg _ q3).bind fun _ q4 h4 => ?_
      refine (take_rg _ q4).bind fun _ q5 h5 => ?_
      refine arrOkP s n _ q5 p0 (by omega) ⟨by omega, ?_, ?_⟩
      · rw [wtA_snoc]; simp only; omega
      rw [okA_snoc, hr.2.2, hk.2]; rfl
theorem prmOkP (s : ByteArray) : ∀ (n : Nat) (acc : List ByteArray) (p p0 : PS s), 8 * rst s p + 1 ≤ n → rst s p ≤ rst s p0 ∧ wtV acc + 200 * rst s p ≤ 200 * rst s p0 + 1 → RG (prmL s n acc p) (fun l q => rst s q ≤ rst s p0 ∧ wtV l + 200 * rst s q ≤ 200 * rst s p0 + 1)
  | 0, acc, p, p0, hn, _ => absurd hn (by omega)
  | n + 1, acc, p, p0, hn, hr => by
    simp only [prmL]
    have hx := rst_nx p
    cases h1 : (!eqW p.w ⟨#[41]⟩) with
    | false => exact ⟨by omega, by omega⟩
    | true =>
      cases decide ((acc.length : Int) > 0) with
      | true =>
        refine (take_rg _ p).bind fun _ q1 h2 => ?_
        refine (name_rg q1).bind fun m q2 hm => ?_
        refine prmOkP s n _ q2 p0 (by omega) ⟨by omega, ?_⟩
        rw [wtV_snoc]; omega
      | false =>
        refine (name_rg p).bind fun m q2 hm => ?_
        refine prmOkP s n _ q2 p0 (by omega) ⟨by omega, ?_⟩
        rw [wtV_snoc]; omega
def R3G {s : ByteArray} (r : R3 s) (Q : List Sm → Ex → PS s → Prop) : Prop := match r with
  | .ok l e q => Q l e q
  | .bad _ _ _ => True
  | .out => False
theorem blqG (N : Nat) (s : ByteArray) (hs : s.size ≤ 4000) (hN : 2 * s.size ≤ N) (n : Nat) (p : PS s) (hn : 8 * rst s p + 1 ≤ n) : R3G (blockQ s n 1 p) (fun l e q => rst s q + 9 ≤ rst s p ∧ wtB l + wtE e + 200 * rst s q ≤ 200 * rst s p ∧ (okB N l = true ∧ fuB l ≤ 4 * rst s p + 2) ∧ (nmE e = true ∧ fuE e ≤ 2 * rst s p) ∧ dpB l ≤ 12) := by
  obtain ⟨hS, _, _⟩ := smG N s hs hN n
  obtain ⟨_, _, _, hE, _⟩ := exG s n
  have y1 : (⟨#[123]⟩ : ByteArray).size = 1 := rfl
  have y2 : (⟨#[125]⟩ : ByteArray).size = 1 := rfl
  have y3 : (⟨#[114, 101, 116, 117, 114, 110]⟩ : ByteArray).size = 6 := rfl
  have y4 : (⟨#[59]⟩ : ByteArray).size = 1 := rfl
  unfold blockQ
  have t1 := take_rg ⟨#[123]⟩ p
  revert t1
  cases takeF s ⟨#[123]⟩ p with
  | bad q c => intro _; trivial
  | out => exact fun h => h.elim
  | ok a q1 =>
    intro t1
    simp only [RG] at t1
    simp only
    have t2 := hS 1 [] q1 q1 (by omega) (by omega) (by omega) ⟨Nat.le_refl _, by simp only [fuB] <;> omega, by simp only [wtB] <;> omega, rfl, by simp only [dpB] <;> omega⟩
    revert t2
    cases stmtsL s n 1 [] q1 with
    | bad q c => intro _; trivial
    | out => exact fun h => h.elim
    | ok l q2 =>
      intro t2
      obtain ⟨b1, b2, b3, b4, b5⟩ := t2
      simp only [retF]
      have t3 := take_rg ⟨#[114, 101, 116, 117, 114, 110]⟩ q2
      revert t3
      cases takeF s ⟨#[114, 101, 116, 117, 114, 110]⟩ q2 with
      | bad q c => intro _; trivial
      | out => exact fun h => h.elim
      | ok a q3 =>
        intro t3
        simp only [RG] at t3
        simp only
        have t4 := hE 1 q3 (by omega)
        revert t4
        cases termF s n 1 q3 with
        | bad q c => intro _; trivial
        | out => exact fun h => h.elim
        | ok e q4 =>
          intro t4
          obtain ⟨e1, e2, e3, e4⟩ := t4
          simp only
          have t5 := take_rg ⟨#[59]⟩ q4
          revert t5
          cases takeF s ⟨#[59]⟩ q4 with
          | bad q c => intro _; trivial
          | out => exact fun h => h.elim
          | ok a q5 =>
            intro t5
            simp only [RG] at t5
            simp only
            have t6 := take_rg ⟨#[125]⟩ q5
            revert t6
            cases takeF s ⟨#[125]⟩ q5 with
            | bad q c => intro _; trivial
            | out => exact fun h => h.elim
            | ok a q6 =>
              intro t6
              simp only [RG] at t6
              exact ⟨by omega, by omega, ⟨b4, by omega⟩, ⟨e4, by omega⟩, by omega⟩
def dpP (l : List Pc) : Prop := ∀ f, f ∈ l → dpB f.body ≤ 12
theorem prcG (N : Nat) (s : ByteArray) (hs : s.size ≤ 4000) (hN : 2 * s.size ≤ N) : ∀ (n : Nat) (acc : List Pc) (p p0 : PS s), 8 * rst s p + 1 ≤ n → rst s p ≤ rst s p0 ∧ wtP acc + 200 * rst s p ≤ 200 * rst s p0 + 1 ∧ okP' N 16003 acc = true ∧ dpP acc → RG (procsL s n acc p) (fun l q => rst s q ≤ rst s p0 ∧ wtP l + 200 * rst s q ≤ 200 * rst s p0 + 1 ∧ okP' N 16003 l = true ∧ dpP l)
  | 0, acc, p, p0, hn, _ => absurd hn (by omega)
  | n + 1, acc, p, p0, hn, hr => by
    obtain ⟨r1, r2, r3, r4⟩ := hr
    simp only [procsL]
    have hx := rst_nx p
    have hpz : rst s p ≤ s.size := by unfold rst; omega
    have hp : rst s p ≤ 4000 := by omega
    have z : (⟨#[112, 114, 111, 99]⟩ : ByteArray).size = 4 := rfl
    have z2 : (⟨#[40]⟩ : ByteArray).size = 1 := rfl
    cases h1 : eqW p.w ⟨#[112, 114, 111, 99]⟩ with
    | false => exact ⟨r1, r2, r3, r4⟩
    | true =>
      have hs1 := eqW_size h1
      refine (name_rg (nx s p)).bind fun m q1 hm => ?_
      refine (take_rg _ q1).bind fun _ q2 h2 => ?_
      refine (prmOkP s n [] q2 q2 (by omega) ⟨Nat.le_refl _, by simp only [wtV] <;> omega⟩).bind fun l q3 h3 => ?_
      have hb := blqG N s hs hN n q3 (by omega)
      revert hb
      cases blockQ s n 1 q3 with
      | bad oe q c => intro _; trivial
      | out => exact fun h => h.elim
      | ok b e q4 =>
        intro hb
        obtain ⟨b1, b2, ⟨b3, b4⟩, ⟨b5, b6⟩, b7⟩ := hb
        refine prcG N s hs hN n _ q4 p0 (by omega) ⟨by omega, ?_, ?_, ?_⟩
        · rw [wtP_snoc]; simp only; omega
        · rw [okP_snoc, r3]
          simp only [b3, b5]
          rw [decide_eq_true (by omega), decide_eq_true (by omega)]
          rfl
        intro f hf
        rcases List.mem_append.1 hf with hf | hf
        · exact r4 f hf
        rw [List.mem_singleton.1 hf]; exact b7
/-- What is read is no greater than so. -/
structure PgG (N : Nat) (g : Pg) : Prop where
  wt : wtPg g ≤ 1000000
  ok : okPg N 16003 g = true
  main : dpB g.main ≤ 12
  procs : dpP g.procs
theorem progG_ok (N : Nat) (s : ByteArray) (hs : s.size ≤ 4000) (hN : 2 * s.size ≤ N) (n : Nat) (hn : 8 * s.size + 20 ≤ n) (p : PS s) : RG (progF s n p) (fun g _ => PgG N g) := by
  have hp : rst s p ≤ s.size := by unfold rst; omega
  obtain ⟨_, hB, _⟩ := smG N s hs hN n
  unfold progF
  refine (varOkP s n [] p p (by omega) ⟨Nat.le_refl _, by simp only [wtV] <;> omega⟩).bind fun v q1 hv => ?_
  refine (arrOkP s n [] q1 q1 (by omega) ⟨Nat.le_refl _, by simp only [wtA] <;> omega, rfl⟩).bind fun a q2 ha => ?_
  refine (prcG N s hs hN n [] q2 q2 (by omega) ⟨Nat.le_refl _, by simp only [wtP] <;> omega, rfl, fun f hf => by cases hf⟩).bind fun f q3 hf => ?_
  refine (take_rg _ q3).bind fun _ q4 h4 => ?_
  refine (hB 1 q4 (by omega) (by omega) (by omega)).bind fun b q5 hb => ?_
  refine (take_rg _ q5).bind fun _ q6 h6 => ?_
  obtain ⟨⟨b1, b2, b3, b4, b5⟩, b6, b7, b8⟩ := hb
  refine ⟨?_, ?_, ?_, hf.2.2.2⟩
  · simp only [wtPg]; omega
  · simp only [okPg, ha.2.2, hf.2.2.1, b4]
    rw [decide_eq_true (by omega)]
    rfl
  show dpB b ≤ 12
  omega
end Go.Abs
end
section
namespace Go.Abs
open Go Go.Proofs
attribute [local irreducible] aCall AWp Sub Spec
section
variable {t : Nat → TypeId} {u : Nat → Value}
end
end Go.Abs
end
section
namespace Go.Abs
open Go Go.Proofs
theorem okP'_mem {n f : Nat} : ∀ {l : List Pc}, okP' n f l = true → ∀ p, p ∈ l → okB n p.body = true ∧ fuE p.ret ≤ n
  | [], _, p, hp => by cases hp
  | x :: r, h, p, hp => by
    simp only [okP', Bool.and_eq_true, decide_eq_true_eq] at h
    rcases List.mem_cons.1 hp with rfl | hp
    · exact ⟨h.1.1.1, h.1.2.2⟩
    exact okP'_mem h.2 p hp
theorem bk_of {g : Pg} (h : PgG 9900 g) : BkOk g := by
  have ho := h.ok
  simp only [okPg, Bool.and_eq_true] at ho
  refine ⟨Nat.le_trans h.wt (by decide), by have := h.main; omega, ho.2.1, fun f hf => ?_⟩
  obtain ⟨h1, h2⟩ := okP'_mem ho.1.2 f hf
  have := h.procs f hf
  exact ⟨by omega, h1, h2⟩
section
variable {t : Nat → TypeId} {u : Nat → Value}
end
end Go.Abs
end
section
namespace Go.Abs
open Go Go.Proofs
def has {α : Type} (x : TM α) (a : α) : Prop := ∃ k, x = some (a, k)
structure GP (p : ByteArray → Prop) (m : Nat) (r : GT) : Prop where
  ex : ∃ s b, r = some (s, b) ∧ s.size ≤ m ∧ (b = true → p s) ∧ (∀ t, p t → t.size ≤ 4000 → b = true)
theorem GP.no {p : ByteArray → Prop} {m : Nat} (h : ∀ t, p t → 4000 < t.size) : GP p m (some (⟨#[]⟩, false)) :=
  ⟨⟨_, _, rfl, Nat.zero_le _, fun q => Bool.noConfusion q, fun t e q => by have := h t e; omega⟩⟩
theorem GP.congr {p q : ByteArray → Prop} {m m' : Nat} {r : GT} (h : GP p m r) (hm : m ≤ m') (hp : ∀ t, p t ↔ q t) : GP q m' r := by
  obtain ⟨s, b, h1, h2, h3, h4⟩ := h.ex
  exact ⟨⟨s, b, h1, by omega, fun z => (hp s).1 (h3 z), fun t z => h4 t ((hp t).2 z)⟩⟩
theorem GP.fit {p : ByteArray → Prop} {m : Nat} {s : ByteArray} {b : Bool} (hs : s.size ≤ m) (hm : m ≤ 1073741824) (h1 : b = true → p s) (h2 : ∀ t, p t → t.size ≤ 4000 → b = true) : GP p m (fitG s b) :=
  ⟨⟨s, b, fitG_small (by omega), hs, h1, h2⟩⟩
end Go.Abs
end
section
namespace Go.Abs
open Go Go.Proofs
end Go.Abs
end
section
namespace Go.Abs
open Go Go.Proofs
structure GQ (p : ByteArray → Prop) (r : GT) : Prop where
  ex : ∃ s b, r = some (s, b) ∧ (b = true → p s ∧ s.size ≤ 4000) ∧ (∀ t, p t → t.size ≤ 4000 → b = true)
theorem GQ.no {p : ByteArray → Prop} (h : ∀ t, p t → 4000 < t.size) : GQ p (some (⟨#[]⟩, false)) :=
  ⟨⟨_, _, rfl, fun q => Bool.noConfusion q, fun t e q => by have := h t e; omega⟩⟩
theorem GQ.congr {p q : ByteArray → Prop} {r : GT} (h : GQ p r) (hp : ∀ t, p t ↔ q t) : GQ q r := by
  obtain ⟨s, b, h1, h3, h4⟩ := h.ex
  exact ⟨⟨s, b, h1, fun z => ⟨(hp s).1 (h3 z).1, (h3 z).2⟩, fun t z => h4 t ((hp t).2 z)⟩⟩
end Go.Abs
end
section
namespace Go.Abs
open Go Go.Proofs
def bs8 (t : ByteArray) : List UInt8 := t.data.toList
theorem bs8_app (a b : ByteArray) : bs8 (a ++ b) = bs8 a ++ bs8 b := by simp [bs8, ByteArray.data_append]
theorem bs8_eq {a b : ByteArray} (h : bs8 a = bs8 b) : a = b := by
  apply ByteArray.ext
  exact Array.toList_inj.1 h
theorem bs8_len (a : ByteArray) : (bs8 a).length = a.size := by simp [bs8]
theorem byteAt_of {r : ByteArray} {i : Nat} {c : UInt8} (h : (bs8 r)[i]? = some c) : byteAt r (i : Nat) = (c.toNat : Int) := by
  obtain ⟨hl, hc⟩ := List.getElem?_eq_some_iff.1 h
  rw [byteAt_list r i (by rw [← bs8_len]; exact hl)]
  simp only [bs8] at hc
  rw [hc]
/-- The reader stands before these bytes. -/
def Rem (s : ByteArray) (p : PS s) (l : List UInt8) : Prop := ∃ j, j ≤ s.size ∧ (bs8 s).drop j = l ∧ p.i = spaceF s (s.size - j) j ∧ p.w = (s.extract p.i s.size).extract 0 (wordLen (s.extract p.i s.size))
theorem rem_start (s : ByteArray) : Rem s (nx s (p0 s)) (bs8 s) := ⟨0, Nat.zero_le _, rfl, rfl, rfl⟩
section
variable {s : ByteArray} {p : PS s}
theorem rem_space {c : UInt8} {l : List UInt8} (hc : isSp c.toNat = true) (h : Rem s p (c :: l)) : Rem s p l := by
  obtain ⟨j, h1, h2, h3, h4⟩ := h
  have hj : j < s.size := by
    rw [← bs8_len]
    rcases Nat.lt_or_ge j (bs8 s).length with q | q
    · exact q
    rw [List.drop_eq_nil_iff.2 q] at h2
    cases h2
  have hb : (bs8 s)[j]? = some c := by
    have := congrArg (·[0]?) h2
    simpa using this
  refine ⟨j + 1, hj, ?_, ?_, h4⟩
  · rw [← List.drop_drop, h2]
    rfl
  rw [h3]
  obtain ⟨m, hm⟩ : ∃ m, s.size - j = m + 1 := ⟨s.size - j - 1, by omega⟩
  rw [hm]
  simp only [spaceF]
  rw [decide_eq_true (by omega), byteAt_of hb, hc]
  have : m = s.size - (j + 1) := by omega
  rw [this]
theorem rem_spaces : ∀ {w : List UInt8} {l : List UInt8}, (∀ c, c ∈ w → isSp c.toNat = true) → Rem s p (w ++ l) → Rem s p l
  | [], l, _, h => h
  | c :: w, l, hw, h => rem_spaces (w := w) (fun x hx => hw x (List.mem_cons_of_mem _ hx)) (rem_space (hw c (List.mem_cons_self)) h)
theorem rem_end (h : Rem s p []) : p.w = ⟨#[]⟩ := by
  obtain ⟨j, h1, h2, h3, h4⟩ := h
  have hj : j = s.size := by
    have := List.drop_eq_nil_iff.1 h2
    rw [bs8_len] at this
    omega
  have hi : p.i = s.size := by
    rw [h3, hj, Nat.sub_self]
    rfl
  apply ByteArray.ext
  apply Array.eq_empty_of_size_eq_zero
  have : p.w.size ≤ (s.extract p.i s.size).size := by
    rw [h4]
    simp only [ByteArray.size_extract]
    omega
  simp only [ByteArray.size_extract] at this
  show p.w.size = 0
  omega
theorem rem_word {w l : List UInt8} {c : UInt8} (hw : w.head? = some c) (hc : isSp c.toNat = false) (hl : ∀ r : ByteArray, bs8 r = w ++ l → wordLen r = w.length) (h : Rem s p (w ++ l)) : bs8 p.w = w ∧ Rem s (nx s p) l := by
  obtain ⟨j, h1, h2, h3, h4⟩ := h
  obtain ⟨w', rfl⟩ : ∃ w', w = c :: w' := by
    cases w with
    | nil => cases hw
    | cons a w' => simp only [List.head?_cons, Option.some.injEq] at hw; exact ⟨w', by rw [hw]⟩
  have hlen := congrArg List.length h2
  simp only [List.length_drop, bs8_len, List.length_append, List.length_cons] at hlen
  have hb : (bs8 s)[j]? = some c := by
    have := congrArg (·[0]?) h2
    simpa using this
  have hi : p.i = j := by
    rw [h3]
    obtain ⟨m, hm⟩ : ∃ m, s.size - j = m + 1 := ⟨s.size - j - 1, by omega⟩
    rw [hm]
    simp only [spaceF]
    rw [decide_eq_true (by omega), byteAt_of hb, hc]
  have hr : bs8 (s.extract p.i s.size) = (c :: w') ++ l := by
    rw [hi, ← h2]
    simp only [bs8, ByteArray.data_extract, Array.toList_extract, List.extract_eq_take_drop]
    rw [List.take_of_length_le]
    rw [List.length_drop, Array.length_toList]
    exact Nat.le_refl _
  have hwl := hl _ hr
  have hpw : bs8 p.w = c :: w' := by
    rw [h4, hwl]
    have : bs8 ((s.extract p.i s.size).extract 0 (c :: w').length) = (bs8 (s.extract p.i s.size)).take (c :: w').length := by
      simp only [bs8, ByteArray.data_extract, Array.toList_extract, List.extract_eq_take_drop, List.drop_zero, Nat.sub_zero]
    rw [this, hr, List.take_left]
  refine ⟨hpw, p.i + p.w.size, p.ok, ?_, rfl, rfl⟩
  rw [hi, ← bs8_len, hpw, ← List.drop_drop, h2, List.drop_left]
end
theorem scan_to (P : Int → Bool) (r : ByteArray) (k : Nat) (hk : k ≤ r.size) (h1 : ∀ i, i < k → P (byteAt r (i : Nat)) = true) (h2 : k < r.size → P (byteAt r (k : Nat)) = false) : ∀ (f n : Nat), n ≤ k → k ≤ n + f → scanF P r f n = k
  | 0, n, ha, hb => by simp only [scanF]; omega
  | f + 1, n, ha, hb => by
    simp only [scanF]
    rcases Nat.lt_or_ge n k with q | q
    · rw [decide_eq_true (by omega), h1 n q]
      exact scan_to P r k hk h1 h2 f (n + 1) q (by omega)
    obtain rfl : n = k := by omega
    rcases Nat.lt_or_ge n r.size with z | z
    · rw [decide_eq_true (by omega), h2 z]
    rw [decide_eq_false (by omega)]
/-- No letter and no digit stands first. -/
def brk (l : List UInt8) : Prop := ∀ c, l.head? = some c → isL c.toNat = false ∧ isD c.toNat = false
theorem brk_cons {c : UInt8} {l : List UInt8} (h : (isL c.toNat || isD c.toNat) = false) : brk (c :: l) := by
  intro x hx
  simp only [List.head?_cons, Option.some.injEq] at hx
  subst hx
  simpa using h
theorem run_len (P : Int → Bool) {w l : List UInt8} (hw : ∀ c, c ∈ w → P c.toNat = true) (hl : ∀ c, l.head? = some c → P c.toNat = false) {r : ByteArray} (hr : bs8 r = w ++ l) : scanF P r r.size 0 = w.length := by
  have hs : r.size = w.length + l.length := by rw [← bs8_len, hr, List.length_append]
  refine scan_to P r w.length (by omega) (fun i hi => ?_) (fun hi => ?_) r.size 0 (Nat.zero_le _) (by omega)
  · have e : (bs8 r)[i]? = some w[i] := by rw [hr, List.getElem?_append_left hi]; exact List.getElem?_eq_getElem hi
    rw [byteAt_of e]
    exact hw _ (List.getElem_mem _)
  cases l with
  | nil => simp only [List.length_nil] at hs; omega
  | cons c l =>
    have e : (bs8 r)[w.length]? = some c := by rw [hr, List.getElem?_append_right (Nat.le_refl _), Nat.sub_self]; rfl
    rw [byteAt_of e]
    exact hl c rfl
theorem nonempty_of {r : ByteArray} {c : UInt8} {l : List UInt8} (hr : bs8 r = c :: l) : r.toList.isEmpty = false ∧ byteAt r 0 = (c.toNat : Int) := by
  have e : (bs8 r)[0]? = some c := by rw [hr]; rfl
  refine ⟨?_, byteAt_of e⟩
  have hs : 0 < r.size := by rw [← bs8_len, hr]; simp
  rw [ByteArray.toList_eq]
  show (bs8 r).isEmpty = false
  rw [hr]
  rfl
theorem letters_len {w l : List UInt8} {c : UInt8} (h0 : w.head? = some c) (hw : ∀ c, c ∈ w → isL c.toNat = true) (hl : brk l) (r : ByteArray) (hr : bs8 r = w ++ l) : wordLen r = w.length := by
  obtain ⟨w', rfl⟩ : ∃ w', w = c :: w' := by
    cases w with
    | nil => cases h0
    | cons a w' => simp only [List.head?_cons, Option.some.injEq] at h0; exact ⟨w', by rw [h0]⟩
  obtain ⟨e1, e2⟩ := nonempty_of (c := c) (l := w' ++ l) hr
  unfold wordLen
  rw [e1, e2, hw c (List.mem_cons_self)]
  exact run_len isL hw (fun c hc => (hl c hc).1) hr
theorem digits_len {w l : List UInt8} {c : UInt8} (h0 : w.head? = some c) (hw : ∀ c, c ∈ w → isD c.toNat = true) (hl : brk l) (r : ByteArray) (hr : bs8 r = w ++ l) : wordLen r = w.length := by
  obtain ⟨w', rfl⟩ : ∃ w', w = c :: w' := by
    cases w with
    | nil => cases h0
    | cons a w' => simp only [List.head?_cons, Option.some.injEq] at h0; exact ⟨w', by rw [h0]⟩
  obtain ⟨e1, e2⟩ := nonempty_of (c := c) (l := w' ++ l) hr
  have hd := hw c (List.mem_cons_self)
  have hnl : isL c.toNat = false := by
    cases q : isL c.toNat with
    | false => rfl
    | true => rw [isL_isD q] at hd; cases hd
  unfold wordLen
  rw [e1, e2, hnl, hd]
  exact run_len isD hw (fun c hc => (hl c hc).2) hr
/-- A sign of one byte. -/
theorem sign_len {c : UInt8} {l : List UInt8} (hk : (isL c.toNat || isD c.toNat) = false) (ho : isO c.toNat = false ∨ l.head? ≠ some 61) (r : ByteArray) (hr : bs8 r = [c] ++ l) : wordLen r = 1 := by
  obtain ⟨e1, e2⟩ := nonempty_of (c := c) (l := l) hr
  simp only [Bool.or_eq_false_iff] at hk
  unfold wordLen
  rw [e1, e2, hk.1, hk.2]
  simp only
  unfold opLen
  rw [e2]
  have : (decide ((r.size : Int) > 1) && (byteAt r 1 == 61) && isO c.toNat) = false := by
    rcases ho with ho | ho
    · rw [ho, Bool.and_false]
    cases l with
    | nil =>
      have hs : r.size = 1 := by rw [← bs8_len, hr]; rfl
      rw [decide_eq_false (by omega)]
      rfl
    | cons b l =>
      have e : (bs8 r)[1]? = some b := by rw [hr]; rfl
      have hb : byteAt r 1 = (b.toNat : Int) := byteAt_of e
      have : (byteAt r 1 == 61) = false := by
        rw [hb]
        refine beq_eq_false_iff_ne.2 fun q => ho ?_
        have : b.toNat = 61 := by omega
        simp only [List.head?_cons]
        congr 1
        exact UInt8.toNat_inj.1 this
      rw [this, Bool.and_false, Bool.false_and]
  rw [this]
/-- A sign of two bytes. -/
theorem sign2_len {c : UInt8} {l : List UInt8} (hk : (isL c.toNat || isD c.toNat) = false) (ho : isO c.toNat = true) (r : ByteArray) (hr : bs8 r = [c, 61] ++ l) : wordLen r = 2 := by
  obtain ⟨e1, e2⟩ := nonempty_of (c := c) (l := 61 :: l) hr
  simp only [Bool.or_eq_false_iff] at hk
  unfold wordLen
  rw [e1, e2, hk.1, hk.2]
  simp only
  unfold opLen
  have e : (bs8 r)[1]? = some 61 := by rw [hr]; rfl
  have hb : byteAt r 1 = 61 := byteAt_of e
  have hs : r.size = 2 + l.length := by rw [← bs8_len, hr]; simp; omega
  rw [e2, hb, ho, decide_eq_true (by omega)]
  rfl
section
variable {s : ByteArray} {p : PS s}
theorem rem_letters {w : ByteArray} {l : List UInt8} (h0 : 0 < w.size) (hw : ∀ c, c ∈ bs8 w → isL c.toNat = true) (hl : brk l) (h : Rem s p (bs8 w ++ l)) : p.w = w ∧ Rem s (nx s p) l := by
  obtain ⟨c, hc⟩ : ∃ c, (bs8 w).head? = some c := by
    cases e : bs8 w with
    | nil => rw [← bs8_len, e] at h0; cases h0
    | cons c l => exact ⟨c, rfl⟩
  have hm : c ∈ bs8 w := List.mem_of_head? hc
  have hsp : isSp c.toNat = false := by
    cases q : isSp c.toNat with
    | false => rfl
    | true => have := (isSp_no q).1; rw [hw c hm] at this; cases this
  obtain ⟨a, b⟩ := rem_word hc hsp (letters_len hc hw hl) h
  exact ⟨bs8_eq a, b⟩
theorem rem_digits {w : ByteArray} {l : List UInt8} (h0 : 0 < w.size) (hw : ∀ c, c ∈ bs8 w → isD c.toNat = true) (hl : brk l) (h : Rem s p (bs8 w ++ l)) : p.w = w ∧ Rem s (nx s p) l := by
  obtain ⟨c, hc⟩ : ∃ c, (bs8 w).head? = some c := by
    cases e : bs8 w with
    | nil => rw [← bs8_len, e] at h0; cases h0
    | cons c l => exact ⟨c, rfl⟩
  have hm : c ∈ bs8 w := List.mem_of_head? hc
  have hsp : isSp c.toNat = false := by
    cases q : isSp c.toNat with
    | false => rfl
    | true => have := (isSp_no q).2; rw [hw c hm] at this; cases this
  obtain ⟨a, b⟩ := rem_word hc hsp (digits_len hc hw hl) h
  exact ⟨bs8_eq a, b⟩
theorem rem_sign {c : UInt8} {l : List UInt8} (hk : (isL c.toNat || isD c.toNat || isSp c.toNat) = false) (ho : isO c.toNat = false ∨ l.head? ≠ some 61) (h : Rem s p (c :: l)) : p.w = ⟨#[c]⟩ ∧ Rem s (nx s p) l := by
  rw [Bool.or_eq_false_iff] at hk
  obtain ⟨a, b⟩ := rem_word (w := [c]) (l := l) rfl hk.2 (sign_len hk.1 ho) h
  exact ⟨bs8_eq a, b⟩
theorem rem_sign2 {c : UInt8} {l : List UInt8} (hk : (isL c.toNat || isD c.toNat || isSp c.toNat) = false) (ho : isO c.toNat = true) (h : Rem s p (c :: 61 :: l)) : p.w = ⟨#[c, 61]⟩ ∧ Rem s (nx s p) l := by
  rw [Bool.or_eq_false_iff] at hk
  obtain ⟨a, b⟩ := rem_word (w := [c, 61]) (l := l) rfl hk.2 (sign2_len hk.1 ho) h
  exact ⟨bs8_eq a, b⟩
end
end Go.Abs
end
section
namespace Go.Abs
open Go Go.Proofs
/-- This is read, and then these bytes are left (or there is no answer within so many steps). -/
def Gets {s : ByteArray} {α : Type} (r : R s α) (a : α) (l : List UInt8) : Prop := match r with
  | .ok b q => b = a ∧ Rem s q l
  | .bad _ _ => False
  | .out => True
section
variable {s : ByteArray}
theorem gets_bind {α β : Type} {r : R s α} {a : α} {l l' : List UInt8} {f : α → PS s → R s β} {b : β} (h : Gets r a l) (k : ∀ q, Rem s q l → Gets (f a q) b l') : Gets (r.bind f) b l' := by
  cases r with
  | ok x q =>
    obtain ⟨rfl, hq⟩ := h
    exact k q hq
  | bad q c => exact h.elim
  | out => trivial
theorem gets_ok {α : Type} {p : PS s} {a : α} {l : List UInt8} (h : Rem s p l) : Gets (.ok a p) a l := ⟨rfl, h⟩
theorem eqW_self (w : ByteArray) : eqW w w = true := by simp [eqW]
theorem gets_take {p : PS s} {x : ByteArray} {l : List UInt8} (h : p.w = x) (k : Rem s (nx s p) l) : Gets (takeF s x p) () l := by
  unfold takeF
  rw [h, eqW_self]
  exact ⟨rfl, k⟩
theorem take_sign {p : PS s} {c : UInt8} {l : List UInt8} (hk : (isL c.toNat || isD c.toNat || isSp c.toNat) = false) (ho : isO c.toNat = false ∨ l.head? ≠ some 61) (h : Rem s p (c :: l)) : Gets (takeF s ⟨#[c]⟩ p) () l :=
  gets_take (rem_sign hk ho h).1 (rem_sign hk ho h).2
theorem letF_all {m : ByteArray} : ∀ (n i : Nat), letF m n i = true → m.size ≤ i + n → ∀ k, i ≤ k → (h : k < m.size) → isL (byteAt m (k : Nat)) = true
  | 0, i, _, h2, k, hk, hl => by omega
  | n + 1, i, h, h2, k, hk, hl => by
    simp only [letF] at h
    rw [decide_eq_true (by omega)] at h
    cases hb : (decide (byteAt m i < 97) || decide (byteAt m i > 122)) with
    | true => rw [hb] at h; cases h
    | false =>
      rw [hb] at h
      rcases Nat.lt_or_ge i k with q | q
      · exact letF_all n (i + 1) h (by omega) k q hl
      obtain rfl : i = k := by omega
      simp only [Bool.or_eq_false_iff, decide_eq_false_iff_not] at hb
      unfold isL
      rw [decide_eq_true (by omega), decide_eq_true (by omega)]
      rfl
theorem name_letters {m : ByteArray} (h : isNameF m = true) : ∀ c, c ∈ bs8 m → isL c.toNat = true := by
  intro c hc
  unfold isNameF at h
  cases hl : letF m m.size 0 with
  | false => rw [hl] at h; cases h
  | true =>
    obtain ⟨k, hk, rfl⟩ := List.getElem_of_mem hc
    have := letF_all m.size 0 hl (by omega) k (Nat.zero_le _) (by rw [← bs8_len]; exact hk)
    rwa [byteAt_of (List.getElem?_eq_getElem hk)] at this
theorem gets_name {p : PS s} {m : ByteArray} {l : List UInt8} (hm : isNameF m = true) (hl : brk l) (h : Rem s p (bs8 m ++ l)) : Gets (nameF s p) m l := by
  obtain ⟨a, b⟩ := rem_letters (name_pos hm) (name_letters hm) hl h
  unfold nameF
  rw [a, hm]
  exact ⟨rfl, b⟩
theorem dval_snoc (l : List UInt8) (a : Nat) (c : UInt8) : dval a (l ++ [c]) = dval a l * 10 + (c.toNat - 48) := by
  unfold dval
  rw [List.foldl_append]
  rfl
theorem dig_ok {u : Nat} (h : u < 10) : (UInt8.ofNat (48 + u)).toNat = 48 + u := by
  show (48 + u) % 256 = 48 + u
  omega
theorem decDigits_ok : ∀ (u : Nat), allDg (Lib.decDigits u) ∧ dval 0 (Lib.decDigits u) = u ∧ Lib.decDigits u ≠ [] ∧ ((Lib.decDigits u).head? = some 48 → u = 0)
  | u => by
    rw [Lib.decDigits]
    by_cases h : u < 10
    · rw [dif_pos h]
      refine ⟨fun c hc => ?_, ?_, by simp, fun q => ?_⟩
      · rw [List.mem_singleton.1 hc, dig_ok h]
        omega
      · show 0 * 10 + ((UInt8.ofNat (48 + u)).toNat - 48) = u
        rw [dig_ok h]
        omega
      simp only [List.head?_cons, Option.some.injEq] at q
      have := congrArg UInt8.toNat q
      rw [dig_ok h] at this
      simp at this
      omega
    rw [dif_neg h]
    obtain ⟨h1, h2, h3, h4⟩ := decDigits_ok (u / 10)
    refine ⟨fun c hc => ?_, ?_, by simp, fun q => ?_⟩
    · rcases List.mem_append.1 hc with hc | hc
      · exact h1 c hc
      rw [List.mem_singleton.1 hc, dig_ok (by omega)]
      omega
    · rw [dval_snoc, h2, dig_ok (by omega)]
      omega
    exfalso
    have : (Lib.decDigits (u / 10)).head? = some 48 := by
      cases e : Lib.decDigits (u / 10) with
      | nil => exact absurd e h3
      | cons c l => rw [e] at q; exact q
    have := h4 this
    omega
termination_by u => u
decreasing_by omega
theorem num_text {n : Int} (h0 : n ≥ 0) (h1 : n ≤ 1099511627776) : numV (itoaB n) = some n ∧ 0 < (itoaB n).size ∧ (∀ c, c ∈ bs8 (itoaB n) → isD c.toNat = true) := by
  obtain ⟨u, rfl⟩ : ∃ u : Nat, n = u := ⟨n.toNat, by omega⟩
  have e : bs8 (itoaB u) = Lib.decDigits u := by
    show Lib.itoa u = _
    unfold Lib.itoa
    rw [if_neg (by omega)]
    rfl
  obtain ⟨d1, d2, d3, d4⟩ := decDigits_ok u
  refine ⟨?_, itoaB_pos u, fun c hc => ?_⟩
  · have hv : Lib.atoiAll (itoaB u).data.toList = .ok (u : Int) := by
      show Lib.atoiAll (bs8 (itoaB u)) = _
      rw [e]
      rcases atoi_digits d3 d1 with ⟨v, h1, h2⟩ | ⟨_, h2⟩
      · rw [h1, h2, d2]
      rw [d2] at h2; omega
    have hb : numBad (itoaB u) u false = false := by
      obtain ⟨c, r, hc⟩ : ∃ c r, Lib.decDigits u = c :: r := by
        cases q : Lib.decDigits u with
        | nil => exact absurd q d3
        | cons c r => exact ⟨c, r, rfl⟩
      have hb0 : byteAt (itoaB u) 0 = (c.toNat : Int) := byteAt_of (i := 0) (by rw [e, hc]; rfl)
      have hd := d1 c (by rw [hc]; exact List.mem_cons_self)
      have hisd : isD (byteAt (itoaB u) 0) = true := by
        rw [hb0]
        unfold isD
        rw [decide_eq_true (by omega), decide_eq_true (by omega)]
        rfl
      have hne : eqW (itoaB u) ⟨#[]⟩ = false := by
        cases q : eqW (itoaB u) ⟨#[]⟩ with
        | false => rfl
        | true =>
          have := eqW_size q
          have z : (⟨#[]⟩ : ByteArray).size = 0 := rfl
          have := itoaB_pos u
          omega
      have hz : (decide (((itoaB u).size : Int) > 1) && (byteAt (itoaB u) 0 == 48)) = false := by
        cases q : byteAt (itoaB u) 0 == 48 with
        | false => rw [Bool.and_false]
        | true =>
          have q := eq_of_beq q
          have hc48 : c = 48 := UInt8.toNat_inj.1 (by rw [hb0] at q; show c.toNat = 48; omega)
          have hu := d4 (by rw [hc, hc48]; rfl)
          have : (itoaB u).size = 1 := by
            rw [← bs8_len, e, hu]
            rw [Lib.decDigits, dif_pos (by decide)]
            rfl
          rw [decide_eq_false (by omega)]
          rfl
      unfold numBad
      rw [hne, hisd, hz, decide_eq_false (by omega)]
      rfl
    unfold numV
    rw [hv]
    simp only
    rw [hb]
  rw [e] at hc
  have := d1 c hc
  unfold isD
  rw [decide_eq_true (by omega), decide_eq_true (by omega)]
  rfl
theorem gets_num {p : PS s} {n : Int} {l : List UInt8} (h0 : n ≥ 0) (h1 : n ≤ 1099511627776) (hl : brk l) (h : Rem s p (bs8 (itoaB n) ++ l)) : Gets (numberF s p) n l ∧ isD (byteAt p.w 0) = true ∧ eqW p.w ⟨#[]⟩ = false := by
  obtain ⟨a, b, c⟩ := num_text h0 h1
  obtain ⟨e, f⟩ := rem_digits b c hl h
  obtain ⟨x, r, hx⟩ : ∃ x r, bs8 (itoaB n) = x :: r := by
    cases q : bs8 (itoaB n) with
    | nil => rw [← bs8_len, q] at b; cases b
    | cons x r => exact ⟨x, r, rfl⟩
  refine ⟨?_, ?_, ?_⟩
  · unfold numberF
    rw [e, a]
    exact ⟨rfl, f⟩
  · have hb0 : byteAt (itoaB n) 0 = (x.toNat : Int) := byteAt_of (i := 0) (by rw [hx]; rfl)
    rw [e, hb0]
    exact c x (by rw [hx]; exact List.mem_cons_self)
  rw [e]
  cases q : eqW (itoaB n) ⟨#[]⟩ with
  | false => rfl
  | true =>
    have := eqW_size q
    have z : (⟨#[]⟩ : ByteArray).size = 0 := rfl
    omega
end
end Go.Abs
end
section
namespace Go.Abs
open Go Go.Proofs
section
variable {s : ByteArray}
def Via1 (r : R s Ex) (d : Int) (e : Ex) (l : List UInt8) : Prop := r = .out ∨ ∃ n q, Rem s q l ∧ r = termL s n d e q
def Via2 (r : R s Ex) (d : Int) (e : Ex) (l : List UInt8) : Prop := r = .out ∨ ∃ n q, Rem s q l ∧ r = prodL s n d e q
/-- What may stand behind a factor, a product, a term. -/
def St3 (s : ByteArray) (l : List UInt8) : Prop := ∀ q : PS s, Rem s q l → eqW q.w ⟨#[91]⟩ = false
def St2 (s : ByteArray) (l : List UInt8) : Prop := ∀ q : PS s, Rem s q l → eqW q.w ⟨#[91]⟩ = false ∧ (eqW q.w ⟨#[42]⟩ || eqW q.w ⟨#[47]⟩ || eqW q.w ⟨#[37]⟩) = false
def St1 (s : ByteArray) (l : List UInt8) : Prop := ∀ q : PS s, Rem s q l → eqW q.w ⟨#[91]⟩ = false ∧ (eqW q.w ⟨#[42]⟩ || eqW q.w ⟨#[47]⟩ || eqW q.w ⟨#[37]⟩) = false ∧ (eqW q.w ⟨#[43]⟩ || eqW q.w ⟨#[45]⟩) = false
theorem St1.two {l : List UInt8} (h : St1 s l) : St2 s l := fun q hq => ⟨(h q hq).1, (h q hq).2.1⟩
theorem St2.three {l : List UInt8} (h : St2 s l) : St3 s l := fun q hq => (h q hq).1
theorem via1_gets {r : R s Ex} {d : Int} {e : Ex} {l : List UInt8} (h : Via1 r d e l) (hs : St1 s l) : Gets r e l := by
  rcases h with rfl | ⟨n, q, hq, rfl⟩
  · trivial
  cases n with
  | zero => simp only [termL]; trivial
  | succ n =>
    simp only [termL]
    rw [(hs q hq).2.2]
    exact ⟨rfl, hq⟩
theorem via2_gets {r : R s Ex} {d : Int} {e : Ex} {l : List UInt8} (h : Via2 r d e l) (hs : St2 s l) : Gets r e l := by
  rcases h with rfl | ⟨n, q, hq, rfl⟩
  · trivial
  cases n with
  | zero => simp only [prodL]; trivial
  | succ n =>
    simp only [prodL]
    rw [(hs q hq).2]
    exact ⟨rfl, hq⟩
theorem factor_via {n : Nat} {d : Int} {p : PS s} {e : Ex} {l : List UInt8} (h : ∀ n, Gets (factorF s n d p) e l) : Via2 (productF s n d p) d e l := by
  cases n with
  | zero => left; simp only [productF]
  | succ n =>
    have := h n
    simp only [productF]
    cases hr : factorF s n d p with
    | ok b q =>
      rw [hr] at this
      obtain ⟨rfl, hq⟩ := this
      exact .inr ⟨n, q, hq, rfl⟩
    | bad q c => rw [hr] at this; exact this.elim
    | out => exact .inl rfl
theorem product_via {n : Nat} {d : Int} {p : PS s} {e : Ex} {l : List UInt8} (hs : St2 s l) (h : ∀ n, Via2 (productF s n d p) d e l) : Via1 (termF s n d p) d e l := by
  cases n with
  | zero => left; simp only [termF]
  | succ n =>
    have := via2_gets (h n) hs
    simp only [termF]
    cases hr : productF s n d p with
    | ok b q =>
      rw [hr] at this
      obtain ⟨rfl, hq⟩ := this
      exact .inr ⟨n, q, hq, rfl⟩
    | bad q c => rw [hr] at this; exact this.elim
    | out => exact .inl rfl
theorem closeI_some {r : Int} {b : Int → TIs} {least d : Int} {t : ByteArray} {k : Nat} (h : closeI r b least d = some (t, k)) : d ≤ 12 ∧ ((r < least ∧ d + 1 ≤ 12 ∧ ∃ t' k', b (d + 1) = some (t', k') ∧ t = (⟨#[40]⟩ ++ t') ++ ⟨#[41]⟩) ∨ (¬ r < least ∧ ∃ k', b d = some (t, k'))) := by
  unfold closeI at h
  cases hd : decide (d ≤ 12) with
  | false => rw [hd] at h; cases h
  | true =>
    rw [hd] at h
    refine ⟨of_decide_eq_true hd, ?_⟩
    cases hr : decide (r < least) with
    | true =>
      rw [hr] at h
      cases hd1 : decide (d + 1 ≤ 12) with
      | false => rw [hd1] at h; cases h
      | true =>
        rw [hd1] at h
        cases hb : b (d + 1) with
        | none => rw [hb] at h; cases h
        | some y =>
          obtain ⟨t', k'⟩ := y
          rw [hb] at h
          simp only [Option.map_some, Option.some.injEq, Prod.mk.injEq] at h
          exact .inl ⟨of_decide_eq_true hr, of_decide_eq_true hd1, t', k', rfl, h.1.symm⟩
    | false =>
      rw [hr] at h
      cases hb : b d with
      | none => rw [hb] at h; cases h
      | some y =>
        obtain ⟨t', k'⟩ := y
        rw [hb] at h
        simp only [Option.map_some, Option.some.injEq, Prod.mk.injEq] at h
        exact .inr ⟨of_decide_eq_false hr, k', by rw [h.1]⟩
theorem rank_cases (op : ByteArray) : (rankF op = 1 ∧ (op = ⟨#[43]⟩ ∨ op = ⟨#[45]⟩)) ∨ (rankF op = 2 ∧ (op = ⟨#[42]⟩ ∨ op = ⟨#[47]⟩ ∨ op = ⟨#[37]⟩)) ∨ (rankF op = 3 ∧ binF op = false) := by
  unfold rankF binF
  cases h1 : (op.toList == (⟨#[43]⟩ : ByteArray).toList) with
  | true => exact .inl ⟨rfl, .inl (eqW_eq h1)⟩
  | false =>
    cases h2 : (op.toList == (⟨#[45]⟩ : ByteArray).toList) with
    | true => exact .inl ⟨rfl, .inr (eqW_eq h2)⟩
    | false =>
      cases h3 : (op.toList == (⟨#[42]⟩ : ByteArray).toList) with
      | true => exact .inr (.inl ⟨rfl, .inl (eqW_eq h3)⟩)
      | false =>
        cases h4 : (op.toList == (⟨#[47]⟩ : ByteArray).toList) with
        | true => exact .inr (.inl ⟨rfl, .inr (.inl (eqW_eq h4))⟩)
        | false =>
          cases h5 : (op.toList == (⟨#[37]⟩ : ByteArray).toList) with
          | true => exact .inr (.inl ⟨rfl, .inr (.inr (eqW_eq h5))⟩)
          | false => exact .inr (.inr ⟨rfl, rfl⟩)
/-- What a term's own text says of it. -/
theorem body_some {op : ByteArray} {n : Int} {nm : ByteArray} {l : List Ex} {d : Int} {t : ByteArray} {k : Nat} (h : bodyI (.mk op n nm l) d = some (t, k)) :
    (op = ⟨#[110, 117, 109]⟩ ∧ nm = ⟨#[]⟩ ∧ l = [] ∧ n ≥ 0 ∧ n ≤ 1099511627776 ∧ t = itoaB n) ∨
    (op = ⟨#[118, 97, 114]⟩ ∧ n = 0 ∧ l = [] ∧ isNameF nm = true ∧ t = nm) ∨
    (op = ⟨#[97, 116]⟩ ∧ n = 0 ∧ isNameF nm = true ∧ ∃ x t' k', l = [x] ∧ exprI x 1 (d + 1) = some (t', k') ∧ t = ((nm ++ ⟨#[91]⟩) ++ t') ++ ⟨#[93]⟩) ∨
    (op = ⟨#[110, 101, 103]⟩ ∧ n = 0 ∧ nm = ⟨#[]⟩ ∧ ∃ x t' k', l = [x] ∧ exprI x 3 (d + 1) = some (t', k') ∧ t = ⟨#[45]⟩ ++ t') ∨
    (binF op = true ∧ n = 0 ∧ nm = ⟨#[]⟩ ∧ ∃ x y t1 k1 t2 k2, l = [x, y] ∧ exprI x (rankF op) d = some (t1, k1) ∧ exprI y (rankF op + 1) d = some (t2, k2) ∧ t = (((t1 ++ ⟨#[32]⟩) ++ op) ++ ⟨#[32]⟩) ++ t2) := by
  have hlen : ∀ l : List Ex, ∀ m : Nat, (((exs l).length : Int) == (m : Int)) = true → l.length = m := by
    intro l m h
    have := eq_of_beq h
    rw [exs_length] at this
    omega
  unfold bodyI at h
  split at h
  · rename_i h1
    split at h
    · rename_i h2
      simp only [Bool.and_eq_true, decide_eq_true_eq] at h2
      simp only [Option.some.injEq, Prod.mk.injEq] at h
      exact .inl ⟨eqW_eq h1, eqW_eq h2.1.2, List.eq_nil_of_length_eq_zero (hlen l 0 h2.2), h2.1.1.1, h2.1.1.2, h.1.symm⟩
    cases h
  split at h
  · rename_i h1
    split at h
    · rename_i h2
      simp only [Bool.and_eq_true] at h2
      simp only [Option.some.injEq, Prod.mk.injEq] at h
      exact .inr (.inl ⟨eqW_eq h1, eq_of_beq h2.1.1, List.eq_nil_of_length_eq_zero (hlen l 0 h2.1.2), h2.2, h.1.symm⟩)
    cases h
  split at h
  · rename_i h1
    split at h
    · rename_i x h2
      simp only [Bool.and_eq_true] at h2
      cases hx : closeI (rankF x.op) (bodyI x) 1 (d + 1) with
      | none => rw [hx] at h; cases h
      | some y =>
        obtain ⟨t', k'⟩ := y
        rw [hx] at h
        simp only [Option.map_some, Option.some.injEq, Prod.mk.injEq] at h
        exact .inr (.inr (.inl ⟨eqW_eq h1, eq_of_beq h2.1.1, h2.2, x, t', k', rfl, hx, h.1.symm⟩))
    cases h
  split at h
  · rename_i h1
    split at h
    · rename_i x h2
      simp only [Bool.and_eq_true] at h2
      cases hx : closeI (rankF x.op) (bodyI x) 3 (d + 1) with
      | none => rw [hx] at h; cases h
      | some y =>
        obtain ⟨t', k'⟩ := y
        rw [hx] at h
        simp only [Option.map_some, Option.some.injEq, Prod.mk.injEq] at h
        exact .inr (.inr (.inr (.inl ⟨eqW_eq h1, eq_of_beq h2.1.1, eqW_eq h2.1.2, x, t', k', rfl, hx, h.1.symm⟩)))
    cases h
  split at h
  · rename_i x y h2
    simp only [Bool.and_eq_true] at h2
    cases hx : closeI (rankF x.op) (bodyI x) (rankF op) d with
    | none => rw [hx] at h; cases h
    | some u =>
      obtain ⟨t1, k1⟩ := u
      rw [hx] at h
      simp only [Option.bind_some] at h
      cases hy : closeI (rankF y.op) (bodyI y) (rankF op + 1) d with
      | none => rw [hy] at h; cases h
      | some v =>
        obtain ⟨t2, k2⟩ := v
        rw [hy] at h
        simp only [Option.map_some, Option.some.injEq, Prod.mk.injEq] at h
        exact .inr (.inr (.inr (.inr ⟨h2.1, eq_of_beq h2.2.1.1, eqW_eq h2.2.1.2, x, y, t1, k1, t2, k2, rfl, hx, hy, h.1.symm⟩)))
  cases h
/-- What is to be shown of a term. -/
structure XOk (s : ByteArray) (e : Ex) : Prop where
  x3 : ∀ (d : Int) (t : ByteArray) (k n : Nat) (p : PS s) (l : List UInt8), 0 ≤ d → exprI e 3 d = some (t, k) → brk l → St3 s l → Rem s p (bs8 t ++ l) → Gets (factorF s n d p) e l
  x2 : ∀ (d : Int) (t : ByteArray) (k n : Nat) (p : PS s) (l : List UInt8), 0 ≤ d → exprI e 2 d = some (t, k) → brk l → St3 s l → Rem s p (bs8 t ++ l) → Via2 (productF s n d p) d e l
  x1 : ∀ (d : Int) (t : ByteArray) (k n : Nat) (p : PS s) (l : List UInt8), 0 ≤ d → exprI e 1 d = some (t, k) → brk l → St2 s l → Rem s p (bs8 t ++ l) → Via1 (termF s n d p) d e l
theorem deep_ok {d : Int} {p : PS s} (h0 : 0 ≤ d) (h : d + 1 ≤ 12) : deepF s d p = .ok (d + 1) p := by
  unfold deepF
  rw [decide_eq_false (by omega), i64_id (by omega) (by omega)]
theorem brk_sp (l : List UInt8) : brk (32 :: l) := brk_cons (by decide)
/-- A sign between two terms. -/
theorem rem_op {p : PS s} {c : UInt8} {l : List UInt8} (hk : (isL c.toNat || isD c.toNat || isSp c.toNat) = false) (h : Rem s p (32 :: c :: 32 :: l)) : p.w = ⟨#[c]⟩ ∧ Rem s (nx s p) l := by
  obtain ⟨a, b⟩ := rem_sign hk (.inr (by simp)) (rem_space (by decide) h)
  exact ⟨a, rem_space (by decide) b⟩
theorem name_nd {m : ByteArray} (h : isNameF m = true) : isL (byteAt m 0) = true := by
  have := name_pos h
  obtain ⟨c, r, hc⟩ : ∃ c r, bs8 m = c :: r := by
    cases q : bs8 m with
    | nil => rw [← bs8_len, q] at this; cases this
    | cons c r => exact ⟨c, r, rfl⟩
  have hb : byteAt m 0 = (c.toNat : Int) := byteAt_of (i := 0) (by rw [hc]; rfl)
  rw [hb]
  exact name_letters h c (by rw [hc]; exact List.mem_cons_self)
theorem name_ne {m x : ByteArray} (h : isNameF m = true) (hx : isL (byteAt x 0) = false) : eqW m x = false := by
  cases q : eqW m x with
  | false => rfl
  | true =>
    have h2 := name_nd h
    rw [eqW_eq q, hx] at h2
    cases h2
theorem name_res {m x : ByteArray} (h : isNameF m = true) (hx : isRes x = true) : eqW m x = false := by
  cases q : eqW m x with
  | false => rfl
  | true =>
    rw [eqW_eq q] at h
    unfold isNameF at h
    rw [hx] at h
    split at h
    · rw [Bool.not_true, Bool.and_false] at h; cases h
    cases h
theorem body3 {op : ByteArray} {num : Int} {nm : ByteArray} {L : List Ex} (ih : ∀ x, x ∈ L → XOk s x) (hr : rankF op = 3) {d : Int} {t : ByteArray} {k n : Nat} {p : PS s} {l : List UInt8} (h0 : 0 ≤ d) (h : bodyI (.mk op num nm L) d = some (t, k)) (hl : brk l) (hs : St3 s l) (hp : Rem s p (bs8 t ++ l)) : Gets (factorF s n d p) (.mk op num nm L) l := by
  cases n with
  | zero => simp only [factorF]; trivial
  | succ n =>
  rcases body_some h with ⟨rfl, rfl, rfl, n0, n1, rfl⟩ | ⟨rfl, rfl, rfl, hm, rfl⟩ | ⟨rfl, rfl, hm, x, t', k', rfl, hx, rfl⟩ | ⟨rfl, rfl, rfl, x, t', k', rfl, hx, rfl⟩ | ⟨hb, _⟩
  · obtain ⟨g1, g2, g3⟩ := gets_num n0 n1 hl hp
    have q1 : eqW p.w ⟨#[45]⟩ = false := by
      cases q : eqW p.w ⟨#[45]⟩ with
      | false => rfl
      | true => rw [eqW_eq q] at g2; exact absurd g2 (by decide)
    have q2 : eqW p.w ⟨#[40]⟩ = false := by
      cases q : eqW p.w ⟨#[40]⟩ with
      | false => rfl
      | true => rw [eqW_eq q] at g2; exact absurd g2 (by decide)
    simp only [factorF, q1, q2, g3, g2, Bool.not_false, Bool.true_and]
    exact gets_bind g1 fun q hq => gets_ok hq
  · have g := gets_name hm hl hp
    obtain ⟨hw, _⟩ := rem_letters (name_pos hm) (name_letters hm) hl hp
    simp only [factorF, hw, name_ne hm (x := ⟨#[45]⟩) (by decide), name_ne hm (x := ⟨#[40]⟩) (by decide), isL_isD (name_nd hm), Bool.and_false]
    refine gets_bind g fun q hq => ?_
    rw [hs q hq]
    exact gets_ok hq
  · simp only [bs8_app, List.append_assoc] at hp
    have hb : brk (bs8 (⟨#[91]⟩ : ByteArray) ++ (bs8 t' ++ (bs8 (⟨#[93]⟩ : ByteArray) ++ l))) := brk_cons (c := 91) (by decide)
    have g := gets_name hm hb hp
    obtain ⟨hw, _⟩ := rem_letters (name_pos hm) (name_letters hm) hb hp
    simp only [factorF, hw, name_ne hm (x := ⟨#[45]⟩) (by decide), name_ne hm (x := ⟨#[40]⟩) (by decide), isL_isD (name_nd hm), Bool.and_false]
    refine gets_bind g fun q hq => ?_
    obtain ⟨h91, hq2⟩ := rem_sign (c := 91) (by decide) (.inl (by decide)) hq
    rw [h91, eqW_self]
    simp only
    have hx12 := (closeI_some hx).1
    rw [deep_ok h0 hx12]
    simp only [R.bind]
    have hst : St1 s (93 :: l) := fun q hq => by
      rw [(rem_sign (c := 93) (by decide) (.inl (by decide)) hq).1]
      exact ⟨by kernel_rfl, by kernel_rfl, by kernel_rfl⟩
    refine gets_bind (via1_gets ((ih x (List.mem_singleton.2 rfl)).x1 (d + 1) t' k' n (nx s q) (93 :: l) (by omega) hx (brk_cons (by decide)) hst.two hq2) hst) fun q3 hq3 => ?_
    exact gets_bind (take_sign (by decide) (.inl (by decide)) hq3) fun q4 hq4 => gets_ok hq4
  · simp only [bs8_app, List.append_assoc] at hp
    obtain ⟨hw, hq⟩ := rem_sign (c := 45) (l := bs8 t' ++ l) (by decide) (.inl (by decide)) hp
    simp only [factorF, hw, eqW_self]
    have hx12 := (closeI_some hx).1
    rw [deep_ok h0 hx12]
    simp only [R.bind]
    exact gets_bind ((ih x (List.mem_singleton.2 rfl)).x3 (d + 1) t' k' n (nx s p) l (by omega) hx hl hs hq) fun q2 hq2 => gets_ok hq2
  rcases rank_cases op with ⟨q, _⟩ | ⟨q, _⟩ | ⟨_, q⟩
  · omega
  · omega
  rw [q] at hb; cases hb
theorem bin_of {op : ByteArray} {num : Int} {nm : ByteArray} {L : List Ex} {d : Int} {t : ByteArray} {k : Nat} (hr : rankF op ≠ 3) (h : bodyI (.mk op num nm L) d = some (t, k)) : num = 0 ∧ nm = ⟨#[]⟩ ∧ ∃ x y t1 k1 t2 k2, L = [x, y] ∧ exprI x (rankF op) d = some (t1, k1) ∧ exprI y (rankF op + 1) d = some (t2, k2) ∧ t = (((t1 ++ ⟨#[32]⟩) ++ op) ++ ⟨#[32]⟩) ++ t2 := by
  rcases body_some h with ⟨rfl, _⟩ | ⟨rfl, _⟩ | ⟨rfl, _⟩ | ⟨rfl, _⟩ | ⟨_, h1, h2, h3⟩
  · exact absurd (by kernel_rfl) hr
  · exact absurd (by kernel_rfl) hr
  · exact absurd (by kernel_rfl) hr
  · exact absurd (by kernel_rfl) hr
  exact ⟨h1, h2, h3⟩
theorem body2 {op : ByteArray} {num : Int} {nm : ByteArray} {L : List Ex} (ih : ∀ x, x ∈ L → XOk s x) (hr : rankF op = 2) {d : Int} {t : ByteArray} {k n : Nat} {p : PS s} {l : List UInt8} (h0 : 0 ≤ d) (h : bodyI (.mk op num nm L) d = some (t, k)) (hl : brk l) (hs : St3 s l) (hp : Rem s p (bs8 t ++ l)) : Via2 (productF s n d p) d (.mk op num nm L) l := by
  obtain ⟨rfl, rfl, x, y, t1, k1, t2, k2, rfl, hx, hy, rfl⟩ := bin_of (by omega) h
  rw [hr] at hx hy
  obtain ⟨c, rfl, hc, hc91, hop⟩ : ∃ c, op = ⟨#[c]⟩ ∧ (isL c.toNat || isD c.toNat || isSp c.toNat) = false ∧ eqW (⟨#[c]⟩ : ByteArray) ⟨#[91]⟩ = false ∧ (eqW (⟨#[c]⟩ : ByteArray) ⟨#[42]⟩ || eqW (⟨#[c]⟩ : ByteArray) ⟨#[47]⟩ || eqW (⟨#[c]⟩ : ByteArray) ⟨#[37]⟩) = true := by
    rcases rank_cases op with ⟨q, _⟩ | ⟨_, rfl | rfl | rfl⟩ | ⟨q, _⟩
    · omega
    · exact ⟨42, rfl, by decide, by kernel_rfl, by kernel_rfl⟩
    · exact ⟨47, rfl, by decide, by kernel_rfl, by kernel_rfl⟩
    · exact ⟨37, rfl, by decide, by kernel_rfl, by kernel_rfl⟩
    omega
  simp only [bs8_app, List.append_assoc] at hp
  have hp : Rem s p (bs8 t1 ++ (32 :: c :: 32 :: (bs8 t2 ++ l))) := hp
  have hst : St3 s (32 :: c :: 32 :: (bs8 t2 ++ l)) := fun q hq => by rw [(rem_op hc hq).1]; exact hc91
  rcases (ih x (by simp)).x2 d t1 k1 n p _ h0 hx (brk_sp _) hst hp with ho | ⟨n', q, hq, ho⟩
  · exact .inl ho
  rw [ho]
  cases n' with
  | zero => left; simp only [prodL]
  | succ n' =>
    obtain ⟨e1, e2⟩ := rem_op hc hq
    simp only [prodL, e1, hop]
    have g := (ih y (by simp)).x3 d t2 k2 n' (nx s q) l h0 hy hl hs e2
    cases hf : factorF s n' d (nx s q) with
    | out => exact .inl rfl
    | bad q2 c2 => rw [hf] at g; exact g.elim
    | ok z q2 =>
      rw [hf] at g
      obtain ⟨rfl, hq2⟩ := g
      exact .inr ⟨n', q2, hq2, rfl⟩
theorem body1 {op : ByteArray} {num : Int} {nm : ByteArray} {L : List Ex} (ih : ∀ x, x ∈ L → XOk s x) (hr : rankF op = 1) {d : Int} {t : ByteArray} {k n : Nat} {p : PS s} {l : List UInt8} (h0 : 0 ≤ d) (h : bodyI (.mk op num nm L) d = some (t, k)) (hl : brk l) (hs : St2 s l) (hp : Rem s p (bs8 t ++ l)) : Via1 (termF s n d p) d (.mk op num nm L) l := by
  obtain ⟨rfl, rfl, x, y, t1, k1, t2, k2, rfl, hx, hy, rfl⟩ := bin_of (by omega) h
  rw [hr] at hx hy
  obtain ⟨c, rfl, hc, hc91, hc42, hop⟩ : ∃ c, op = ⟨#[c]⟩ ∧ (isL c.toNat || isD c.toNat || isSp c.toNat) = false ∧ eqW (⟨#[c]⟩ : ByteArray) ⟨#[91]⟩ = false ∧ (eqW (⟨#[c]⟩ : ByteArray) ⟨#[42]⟩ || eqW (⟨#[c]⟩ : ByteArray) ⟨#[47]⟩ || eqW (⟨#[c]⟩ : ByteArray) ⟨#[37]⟩) = false ∧ (eqW (⟨#[c]⟩ : ByteArray) ⟨#[43]⟩ || eqW (⟨#[c]⟩ : ByteArray) ⟨#[45]⟩) = true := by
    rcases rank_cases op with ⟨_, rfl | rfl⟩ | ⟨q, _⟩ | ⟨q, _⟩
    · exact ⟨43, rfl, by decide, by kernel_rfl, by kernel_rfl, by kernel_rfl⟩
    · exact ⟨45, rfl, by decide, by kernel_rfl, by kernel_rfl, by kernel_rfl⟩
    · omega
    omega
  simp only [bs8_app, List.append_assoc] at hp
  have hp : Rem s p (bs8 t1 ++ (32 :: c :: 32 :: (bs8 t2 ++ l))) := hp
  have hst : St2 s (32 :: c :: 32 :: (bs8 t2 ++ l)) := fun q hq => by rw [(rem_op hc hq).1]; exact ⟨hc91, hc42⟩
  rcases (ih x (by simp)).x1 d t1 k1 n p _ h0 hx (brk_sp _) hst hp with ho | ⟨n', q, hq, ho⟩
  · exact .inl ho
  rw [ho]
  cases n' with
  | zero => left; simp only [termL]
  | succ n' =>
    obtain ⟨e1, e2⟩ := rem_op hc hq
    simp only [termL, e1, hop]
    have g := via2_gets ((ih y (by simp)).x2 d t2 k2 n' (nx s q) l h0 hy hl hs.three e2) hs
    cases hf : productF s n' d (nx s q) with
    | out => exact .inl rfl
    | bad q2 c2 => rw [hf] at g; exact g.elim
    | ok z q2 =>
      rw [hf] at g
      obtain ⟨rfl, hq2⟩ := g
      exact .inr ⟨n', q2, hq2, rfl⟩
theorem body_any {op : ByteArray} {num : Int} {nm : ByteArray} {L : List Ex} (ih : ∀ x, x ∈ L → XOk s x) {d : Int} {t : ByteArray} {k n : Nat} {p : PS s} {l : List UInt8} (h0 : 0 ≤ d) (h : bodyI (.mk op num nm L) d = some (t, k)) (hl : brk l) (hs : St2 s l) (hp : Rem s p (bs8 t ++ l)) : Via1 (termF s n d p) d (.mk op num nm L) l := by
  rcases rank_cases op with ⟨hr, _⟩ | ⟨hr, _⟩ | ⟨hr, _⟩
  · exact body1 ih hr h0 h hl hs hp
  · exact product_via hs fun n => body2 ih hr h0 h hl hs.three hp
  exact product_via hs fun n => factor_via fun n => body3 ih hr h0 h hl hs.three hp
theorem paren {op : ByteArray} {num : Int} {nm : ByteArray} {L : List Ex} (ih : ∀ x, x ∈ L → XOk s x) {d : Int} {t : ByteArray} {k n : Nat} {p : PS s} {l : List UInt8} (h0 : 0 ≤ d) (h12 : d + 1 ≤ 12) (h : bodyI (.mk op num nm L) (d + 1) = some (t, k)) (hp : Rem s p (bs8 ((⟨#[40]⟩ ++ t) ++ ⟨#[41]⟩) ++ l)) : Gets (factorF s n d p) (.mk op num nm L) l := by
  cases n with
  | zero => simp only [factorF]; trivial
  | succ n =>
  simp only [bs8_app, List.append_assoc] at hp
  obtain ⟨hw, hq⟩ := rem_sign (c := 40) (l := bs8 t ++ (41 :: l)) (by decide) (.inl (by decide)) hp
  have q1 : eqW (⟨#[40]⟩ : ByteArray) ⟨#[45]⟩ = false := by kernel_rfl
  simp only [factorF, hw, q1, eqW_self]
  rw [deep_ok h0 h12]
  simp only [R.bind]
  have hst : St1 s (41 :: l) := fun q hq => by
    rw [(rem_sign (c := 41) (by decide) (.inl (by decide)) hq).1]
    exact ⟨by kernel_rfl, by kernel_rfl, by kernel_rfl⟩
  refine gets_bind (via1_gets (body_any ih (by omega) h (brk_cons (by decide)) hst.two hq) hst) fun q3 hq3 => ?_
  exact gets_bind (take_sign (by decide) (.inl (by decide)) hq3) fun q4 hq4 => gets_ok hq4
theorem xok_of (op : ByteArray) (num : Int) (nm : ByteArray) (L : List Ex) (ih : ∀ x, x ∈ L → XOk s x) : XOk s (.mk op num nm L) := by
  refine ⟨fun d t k n p l h0 h hl hs hp => ?_, fun d t k n p l h0 h hl hs hp => ?_, fun d t k n p l h0 h hl hs hp => ?_⟩
  · rcases (closeI_some h).2 with ⟨_, h2, t', k', hb, rfl⟩ | ⟨hr, k', hb⟩
    · exact paren ih h0 h2 hb hp
    have hr : ¬ rankF op < 3 := hr
    have : rankF op = 3 := by
      rcases rank_cases op with ⟨q, _⟩ | ⟨q, _⟩ | ⟨q, _⟩
      · omega
      · omega
      exact q
    exact body3 ih this h0 hb hl hs hp
  · rcases (closeI_some h).2 with ⟨_, h2, t', k', hb, rfl⟩ | ⟨hr, k', hb⟩
    · exact factor_via fun n => paren ih h0 h2 hb hp
    have hr : ¬ rankF op < 2 := hr
    rcases rank_cases op with ⟨q, _⟩ | ⟨q, _⟩ | ⟨q, _⟩
    · omega
    · exact body2 ih q h0 hb hl hs hp
    exact factor_via fun n => body3 ih q h0 hb hl hs hp
  rcases (closeI_some h).2 with ⟨hr, _⟩ | ⟨hr, k', hb⟩
  · have hr : rankF op < 1 := hr
    rcases rank_cases op with ⟨q, _⟩ | ⟨q, _⟩ | ⟨q, _⟩ <;> omega
  exact body_any ih h0 hb hl hs hp
mutual
theorem xok (s : ByteArray) : ∀ e : Ex, XOk s e
  | .mk op num nm L => xok_of op num nm L (xokL s L)
theorem xokL (s : ByteArray) : ∀ (L : List Ex) (x : Ex), x ∈ L → XOk s x
  | [], x, hx => by cases hx
  | y :: r, x, hx => by
    rcases List.mem_cons.1 hx with q | q
    · rw [q]; exact xok s y
    exact xokL s r x q
end
/-- A term is read as it is written. -/
theorem gets_term {e : Ex} {d : Int} {t : ByteArray} {k n : Nat} {p : PS s} {l : List UInt8} (h0 : 0 ≤ d) (h : exprI e 1 d = some (t, k)) (hl : brk l) (hs : St1 s l) (hp : Rem s p (bs8 t ++ l)) : Gets (termF s n d p) e l :=
  via1_gets ((xok s e).x1 d t k n p l h0 h hl hs.two hp) hs
end
end Go.Abs
end
