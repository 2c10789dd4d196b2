/- Texts of this proof, joined: AbsRG, AbsNB, AbsMI, AbsMJ. -/
import Derived.Test.YtedljfabpknjiaaGreatDoorU12
import Derived.Test.YtedljfabpknjiaaGreatDoorU8
section
namespace Go.Abs
open Go Go.Proofs
attribute [local irreducible] aCall AWp Sub Spec
theorem sms_snoc2 : ∀ (l : List Sm) (e : Sm), sms l ++ [e.cs] = sms (l ++ [e])
  | [], e => rfl
  | x :: r, e => by simp only [sms, List.cons_append, sms_snoc2 r e]
def OfE (G : Glob) (f : FuncId) (m : Nat) : Prop := ∀ l : List Ex, fuL l < m → wtL l ≤ 1000000000 → Spec Tryz.prog G f [.d (.sl 4 (exs l))] [] (.ret (.d (.sl 4 (exs l)))) []
theorem tss_len3 (l : List Ts) : (tss l).length = l.length := by simp [tss]
theorem cnd_len3 (l : List (List Ts)) : (cnd l).length = l.length := by simp [cnd]
theorem fuL_app : ∀ (a b : List Ex), fuL (a ++ b) = fuL a + fuL b
  | [], b => by simp [fuL]
  | x :: a, b => by simp only [List.cons_append, fuL, fuL_app a b]; omega
theorem wtL_app : ∀ (a b : List Ex), wtL (a ++ b) = wtL a + wtL b
  | [], b => by simp [wtL]
  | x :: a, b => by simp only [List.cons_append, wtL, wtL_app a b]; omega
def p156_5 : Plan := (.take 0 (.take 1 (.take 2 (.take 3 (.take 4 (.load 5 (.take 6 (.take 7 (.take 8 (.take 9 (.load 10 (.take 11 (.take 12 (.take 13 (.take 14 (.load 15 (.take 16 (.take 17 (.take 18 (.take 19 (.load 20 (.one 21 (.one 22 (.one 23 (.one 24 (.take 25 .done))))))))))))))))))))))))))
theorem exprsOf_step (G : Glob) (m : Nat) (ih : OfE G 156 m) : OfE G 156 (m + 1) := by
  intro l hf hw
  have hlen := wtL_len l
  have hbig : l.length ≤ 1073741824 := by omega
  refine spec_of_awp2 TT_ok (N := 37) Tryz.func156 rfl (by rfl) (Nat.le_refl _) rfl ?_
  refine awp_seq ?_; refine rgn fun pan K hp hK => ?_; refine hK _ ?_; clear hK hp K pan; refine awp_norm [0] rfl rfl ?_; refine awp_seq ?_; refine rgn fun pan K hp hK => ?_; refine hK _ ?_; clear hK hp K pan; refine awp_norm [0, 3] rfl rfl ?_; refine awp_seq ?_; refine awp_seq ?_; refine rgn fun pan K hp hK => ?_; refine hK _ ?_; clear hK hp K pan; refine awp_norm [0, 3, 4] rfl rfl ?_
  refine awp_acc 3 157 4 rfl rfl rfl ?_
  refine awp_norm [0, 3, 4] rfl rfl ?_; refine awp_block ?_
  refine awp_loop (fun k Y => ∃ (d1 e1 : List Ex), k = e1.length ∧ l = d1 ++ e1 ∧ Y = ⟨[(0, .d (.sl 4 (exs l))), (3, .acc 0), (4, .d (num d1.length))], [.acc 157 4 (exs d1)]⟩) (l.length) (⟨[], l, rfl, rfl, rfl⟩) ?_
  rintro k Y ⟨d1, e1, rfl, hl1, rfl⟩
  have hll1 : (exs l).length = d1.length + e1.length := by rw [ex_len, hl1, List.length_append]
  have hdl1 : d1.length + e1.length ≤ 1073741824 := by rw [hl1, List.length_append] at hbig; exact hbig
  refine awp_seq ?_; refine awp_seq ?_; refine rgn fun pan K hp hK => ?_; refine hK _ ?_; clear hK hp K pan; refine awp_norm [0, 3, 4, 8] rfl rfl ?_
  refine awp_cond2 rfl (onB_intro (fun h1 => ?_) (fun h1 => ?_))
  · have h1' := of_decide_eq_true h1
    rw [hll1] at h1'
    cases e1 with
    | nil => simp only [List.length_nil] at h1'; omega
    | cons x e1b =>
    obtain ⟨p1, n1, m1, l1⟩ := x
    subst hl1
    simp only [List.length_cons] at hdl1
    have hfx : fuL l1 < m := by rw [fuL_app] at hf; simp only [fuL, fuE] at hf; omega
    have hwx : wtL l1 ≤ 1000000000 := by rw [wtL_app] at hw; simp only [wtL, wtE] at hw; omega
    refine awp_skip ?_; refine awp_seq ?_; refine awp_block ?_
    refine (awp_draw TT_ok mixed p156_5 [24] (fun _ => false) (by kernel_rfl) fun pan K hp hK => ?_)
    refine And.intro ((by omega)) (Exists.intro _ (And.intro (exs_at rfl) ?_))
    refine And.intro ((by omega)) (Exists.intro _ (And.intro (exs_at rfl) ?_))
    refine And.intro ((by omega)) (Exists.intro _ (And.intro (exs_at rfl) ?_))
    refine And.intro ((by omega)) (Exists.intro _ (And.intro (exs_at rfl) ?_))
    show aCall _ _ _ _ _ _ _
    refine aCall_ret (L := []) rfl rfl rfl (ih l1 hfx hwx) rfl rfl rfl rfl ?_
    refine And.intro (And.intro ((by simp only [ex_len, chunk_length]; omega)) ((by simp only [ex_len, chunk_length, maxLen]; omega))) ?_
    refine hK _ ?_; clear hK hp K pan; refine awp_norm [0, 3, 4] rfl rfl ?_; refine rgn fun pan K hp hK => ?_; refine hK _ ?_; clear hK hp K pan
    exact ⟨_, Nat.lt_succ_self _, _, sub_pick (L := [0]) (slots := [0, 3, 4]) rfl rfl rfl rfl rfl, d1 ++ [.mk p1 n1 m1 l1], e1b, rfl, by simp, by rw [← exs_snoc, List.length_append, wrapId (by omega) (by omega)]; rfl⟩
  have h1' := of_decide_eq_false h1
  rw [hll1] at h1'
  obtain rfl : e1 = [] := List.eq_nil_of_length_eq_zero (by omega)
  rw [List.append_nil] at hl1
  subst hl1
  refine awp_exit ?_
  refine awp_norm [3] rfl rfl ?_; refine awp_seq ?_; refine rgn fun pan K hp hK => ?_; refine hK _ ?_; clear hK hp K pan; refine awp_norm [2] rfl rfl ?_; refine awp_ret ?_
  exact ⟨_, [], _, [.d (.sl 4 (exs l))], rfl, rfl, rfl, rfl, rfl, PWs.refl _, rfl⟩
theorem exprsOf_spec (G : Glob) : ∀ m, OfE G 156 m
  | 0 => fun l h => absurd h (by omega)
  | m + 1 => exprsOf_step G m (exprsOf_spec G m)
theorem exprsOf_all (G : Glob) (l : List Ex) (hw : wtL l ≤ 1000000000) : Spec Tryz.prog G 156 [.d (.sl 4 (exs l))] [] (.ret (.d (.sl 4 (exs l)))) [] := exprsOf_spec G (fuL l + 1) l (Nat.lt_succ_self _) hw
def p84_1 : Plan := (.take 0 (.load 1 (.take 2 (.load 3 (.take 4 (.load 5 (.take 6 (.load 7 (.one 8 (.one 9 (.one 10 .done)))))))))))
theorem exprOf_spec (G : Glob) (e : Ex) (hw : wtE e ≤ 1000000000) : Spec Tryz.prog G 84 [.d (.agg e.cs)] [] (.ret (.d (.agg e.cs))) [] := by
  obtain ⟨op, n, nm, l⟩ := e
  refine spec_of_awp2 TT_ok (N := 13) Tryz.func84 rfl (by rfl) (Nat.le_refl _) rfl ?_
  refine awp_seq ?_; refine rgn fun pan K hp hK => ?_; refine hK _ ?_; clear hK hp K pan; refine awp_norm [1, 2] rfl rfl ?_; refine awp_seq ?_
  refine (awp_draw TT_ok mixed p84_1 [10] (fun i => Nat.beq i 0) (by kernel_rfl) fun pan K hp hK => ?_)
  show aCall _ _ _ _ _ _ _
  refine aCall_ret (L := []) rfl rfl rfl (exprsOf_all G l (by simp only [wtE] at hw; omega)) rfl rfl rfl rfl ?_
  refine hK _ ?_; clear hK hp K pan; refine awp_norm [2] rfl rfl ?_; refine awp_ret ?_
  exact ⟨_, [], _, [encE (.mk op n nm l)], rfl, rfl, rfl, rfl, rfl, PWs.refl _, rfl⟩
theorem wtR_app : ∀ (a b : List Ts), wtR b ≤ wtR (a ++ b)
  | [], b => Nat.le_refl _
  | x :: a, b => by have := wtR_app a b; simp only [List.cons_append, wtR]; omega
def p157_5 : Plan := (.take 0 (.take 1 (.take 2 (.take 3 (.take 4 (.load 5 (.take 7 (.take 8 (.take 9 (.take 10 (.load 11 (.take 12 (.take 13 (.take 14 (.take 15 (.load 16 (.one 6 (.one 17 (.one 18 (.one 19 (.one 20 (.take 21 .done))))))))))))))))))))))
theorem testsOf_spec (G : Glob) (l : List Ts) (hw : wtR l ≤ 1000000000) : Spec Tryz.prog G 157 [.d (.sl 9 (tss l))] [] (.ret (.d (.sl 9 (tss l)))) [] := by
  have hlen := wtR_len l
  have hbig : l.length ≤ 1073741824 := by omega
  refine spec_of_awp2 TT_ok (N := 33) Tryz.func157 rfl (by rfl) (Nat.le_refl _) rfl ?_
  refine awp_seq ?_; refine rgn fun pan K hp hK => ?_; refine hK _ ?_; clear hK hp K pan; refine awp_norm [0] rfl rfl ?_; refine awp_seq ?_; refine rgn fun pan K hp hK => ?_; refine hK _ ?_; clear hK hp K pan; refine awp_norm [0, 3] rfl rfl ?_; refine awp_seq ?_; refine awp_seq ?_; refine rgn fun pan K hp hK => ?_; refine hK _ ?_; clear hK hp K pan; refine awp_norm [0, 3, 4] rfl rfl ?_
  refine awp_acc 3 282 9 rfl rfl rfl ?_
  refine awp_norm [0, 3, 4] rfl rfl ?_; refine awp_block ?_
  refine awp_loop (fun k Y => ∃ (d1 e1 : List Ts), k = e1.length ∧ l = d1 ++ e1 ∧ Y = ⟨[(0, .d (.sl 9 (tss l))), (3, .acc 0), (4, .d (num d1.length))], [.acc 282 9 (tss d1)]⟩) (l.length) (⟨[], l, rfl, rfl, rfl⟩) ?_
  rintro k Y ⟨d1, e1, rfl, hl1, rfl⟩
  have hll1 : (tss l).length = d1.length + e1.length := by rw [tss_len3, hl1, List.length_append]
  have hdl1 : d1.length + e1.length ≤ 1073741824 := by rw [hl1, List.length_append] at hbig; exact hbig
  refine awp_seq ?_; refine awp_seq ?_; refine rgn fun pan K hp hK => ?_; refine hK _ ?_; clear hK hp K pan; refine awp_norm [0, 3, 4, 8] rfl rfl ?_
  refine awp_cond2 rfl (onB_intro (fun h1 => ?_) (fun h1 => ?_))
  · have h1' := of_decide_eq_true h1
    rw [hll1] at h1'
    cases e1 with
    | nil => simp only [List.length_nil] at h1'; omega
    | cons x e1b =>
    obtain ⟨⟨p1, n1, m1, l1⟩, rel, ⟨p2, n2, m2, l2⟩⟩ := x
    subst hl1
    simp only [List.length_cons] at hdl1
    have hx := wtR_app d1 (⟨.mk p1 n1 m1 l1, rel, .mk p2 n2 m2 l2⟩ :: e1b)
    rw [wtR, wtT] at hx
    simp only at hx
    refine awp_skip ?_; refine awp_seq ?_; refine awp_block ?_
    refine (awp_draw TT_ok mixed p157_5 [20] (fun _ => false) (by kernel_rfl) fun pan K hp hK => ?_)
    refine And.intro ((by omega)) (Exists.intro _ (And.intro (tss_at rfl) ?_))
    refine And.intro ((by omega)) (Exists.intro _ (And.intro (tss_at rfl) ?_))
    refine And.intro ((by omega)) (Exists.intro _ (And.intro (tss_at rfl) ?_))
    show aCall _ _ _ _ _ _ _
    refine aCall_ret (L := []) rfl rfl rfl (exprOf_spec G (.mk p1 n1 m1 l1) (by omega)) rfl rfl rfl rfl ?_
    show aCall _ _ _ _ _ _ _
    refine aCall_ret (L := []) rfl rfl rfl (exprOf_spec G (.mk p2 n2 m2 l2) (by omega)) rfl rfl rfl rfl ?_
    refine And.intro (And.intro ((by simp only [tss_len3, chunk_length]; omega)) ((by simp only [tss_len3, chunk_length, maxLen]; omega))) ?_
    refine hK _ ?_; clear hK hp K pan; refine awp_norm [0, 3, 4] rfl rfl ?_; refine rgn fun pan K hp hK => ?_; refine hK _ ?_; clear hK hp K pan
    exact ⟨_, Nat.lt_succ_self _, _, sub_pick (L := [0]) (slots := [0, 3, 4]) rfl rfl rfl rfl rfl, d1 ++ [⟨.mk p1 n1 m1 l1, rel, .mk p2 n2 m2 l2⟩], e1b, rfl, by simp, by rw [← tss_snoc, List.length_append, wrapId (by omega) (by omega)]; rfl⟩
  have h1' := of_decide_eq_false h1
  rw [hll1] at h1'
  obtain rfl : e1 = [] := List.eq_nil_of_length_eq_zero (by omega)
  rw [List.append_nil] at hl1
  subst hl1
  refine awp_exit ?_
  refine awp_norm [3] rfl rfl ?_; refine awp_seq ?_; refine rgn fun pan K hp hK => ?_; refine hK _ ?_; clear hK hp K pan; refine awp_norm [2] rfl rfl ?_; refine awp_ret ?_
  exact ⟨_, [], _, [.d (.sl 9 (tss l))], rfl, rfl, rfl, rfl, rfl, PWs.refl _, rfl⟩
theorem fuB_app : ∀ (a b : List Sm), fuB b ≤ fuB (a ++ b)
  | [], b => Nat.le_refl _
  | x :: a, b => by have := fuB_app a b; simp only [List.cons_append, fuB]; omega
theorem wtB_app : ∀ (a b : List Sm), wtB b ≤ wtB (a ++ b)
  | [], b => Nat.le_refl _
  | x :: a, b => by have := wtB_app a b; simp only [List.cons_append, wtB]; omega
theorem wtC_app : ∀ (a b : List (List Ts)), wtC b ≤ wtC (a ++ b)
  | [], b => Nat.le_refl _
  | x :: a, b => by have := wtC_app a b; simp only [List.cons_append, wtC]; omega
theorem wtP_app : ∀ (a b : List Pc), wtP b ≤ wtP (a ++ b)
  | [], b => Nat.le_refl _
  | x :: a, b => by have := wtP_app a b; simp only [List.cons_append, wtP]; omega
def OfS (G : Glob) (m : Nat) : Prop := ∀ l : List Sm, fuB l < m → wtB l ≤ 1000000000 → Spec Tryz.prog G 83 [.d (.sl 7 (sms l))] [] (.ret (.d (.sl 7 (sms l)))) []
set_option maxHeartbeats 1000000
def p83_5 : Plan := (.take 0 (.take 1 (.take 2 (.take 3 (.load 4 (.take 5 (.take 6 (.take 7 (.take 8 (.load 9 (.take 10 (.take 11 (.take 12 (.take 13 (.load 14 (.take 15 (.take 16 (.take 17 (.take 18 (.load 19 (.take 21 (.take 22 (.take 23 (.take 24 (.load 25 (.take 27 (.take 28 (.take 29 (.take 30 (.load 31 (.alt 20 (.alt 26 (.alt 32 (.alt 33 (.one 34 (.one 35 .done)) (.alt 34 (.one 33 (.one 35 .done)) .done)) (.alt 34 (.one 32 (.one 33 (.one 35 .done))) .done)) (.alt 34 (.one 26 (.one 32 (.one 33 (.one 35 .done)))) .done)) (.alt 34 (.one 20 (.one 26 (.one 32 (.one 33 (.one 35 .done))))) .done))))))))))))))))))))))))))))))))
def p83_9 : Plan := (.take 0 (.load 1 (.take 2 (.take 3 (.take 4 (.take 5 (.load 6 (.take 7 (.take 8 (.load 9 (.one 10 (.one 11 (.one 12 (.take 13 (.one 14 .done)))))))))))))))
theorem stmtsOf_step (G : Glob) (m : Nat) (ih : OfS G m) : OfS G (m + 1) := by
  intro l hf hw
  have hlen := wtB_len l
  have hbig : l.length ≤ 1073741824 := by omega
  refine spec_of_awp2 TT_ok (N := 76) Tryz.func83 rfl (by rfl) (Nat.le_refl _) rfl ?_
  refine awp_seq ?_; refine rgn fun pan K hp hK => ?_; refine hK _ ?_; clear hK hp K pan; refine awp_norm [0] rfl rfl ?_; refine awp_seq ?_; refine rgn fun pan K hp hK => ?_; refine hK _ ?_; clear hK hp K pan; refine awp_norm [0, 3] rfl rfl ?_; refine awp_seq ?_; refine awp_seq ?_; refine rgn fun pan K hp hK => ?_; refine hK _ ?_; clear hK hp K pan; refine awp_norm [0, 3, 4] rfl rfl ?_
  refine awp_acc 3 217 7 rfl rfl rfl ?_
  refine awp_norm [0, 3, 4] rfl rfl ?_; refine awp_block ?_
  refine awp_loop (fun k Y => ∃ (d1 e1 : List Sm), k = e1.length ∧ l = d1 ++ e1 ∧ Y = ⟨[(0, .d (.sl 7 (sms l))), (3, .acc 0), (4, .d (num d1.length))], [.acc 217 7 (sms d1)]⟩) (l.length) (⟨[], l, rfl, rfl, rfl⟩) ?_
  rintro k Y ⟨d1, e1, rfl, hl1, rfl⟩
  have hll1 : (sms l).length = d1.length + e1.length := by rw [sms_len2, hl1, List.length_append]
  have hdl1 : d1.length + e1.length ≤ 1073741824 := by rw [hl1, List.length_append] at hbig; exact hbig
  refine awp_seq ?_; refine awp_seq ?_; refine rgn fun pan K hp hK => ?_; refine hK _ ?_; clear hK hp K pan; refine awp_norm [0, 3, 4, 10] rfl rfl ?_
  refine awp_cond2 rfl (onB_intro (fun h1 => ?_) (fun h1 => ?_))
  · have h1' := of_decide_eq_true h1
    rw [hll1] at h1'
    cases e1 with
    | nil => simp only [List.length_nil] at h1'; omega
    | cons x e1b =>
    obtain ⟨kind, name, proc, args, cond, body, els⟩ := x
    subst hl1
    simp only [List.length_cons] at hdl1
    have hfx := fuB_app d1 (.mk kind name proc args cond body els :: e1b)
    have hwx := wtB_app d1 (.mk kind name proc args cond body els :: e1b)
    simp only [fuB, fuS, wtB, wtS] at hfx hwx
    have hfb := fuB_ge body
    have hfe := fuB_ge els
    have hcl := wtC_len cond
    have hbig2 : cond.length ≤ 1073741824 := by omega
    refine awp_skip ?_; refine awp_seq ?_; refine awp_block ?_
    refine awp_cut (fun Z => Z = ⟨[(0, .d (.sl 7 (sms (d1 ++ .mk kind name proc args cond body els :: e1b)))), (3, .acc 0), (4, .d (num d1.length)), (5, .box 1 0)], [.acc 217 7 (sms d1), .box 217 [.d (str kind), .d (str name), .d (str proc), .d (.sl 4 (exs args)), .d (.s (.slice none 0 0)), .d (.sl 7 (sms body)), .d (.sl 7 (sms els))]]⟩) ?_ ?_
    · refine (awp_draw TT_ok mixed p83_5 [35] (fun _ => false) (by kernel_rfl) fun pan K hp hK => ?_)
      refine And.intro ((by omega)) (Exists.intro _ (And.intro (sms_at2 rfl) ?_))
      refine And.intro ((by omega)) (Exists.intro _ (And.intro (sms_at2 rfl) ?_))
      refine And.intro ((by omega)) (Exists.intro _ (And.intro (sms_at2 rfl) ?_))
      refine And.intro ((by omega)) (Exists.intro _ (And.intro (sms_at2 rfl) ?_))
      refine And.intro ((by omega)) (Exists.intro _ (And.intro (sms_at2 rfl) ?_))
      refine And.intro ((by omega)) (Exists.intro _ (And.intro (sms_at2 rfl) ?_))
      refine And.intro ?_ ?_
      · show aCall _ _ _ _ _ _ _
        refine aCall_ret (L := []) rfl rfl rfl (exprsOf_all G args (by omega)) rfl rfl rfl rfl ?_
        refine And.intro ?_ ?_
        · show aCall _ _ _ _ _ _ _
          refine aCall_ret (L := []) rfl rfl rfl (ih body (by omega) (by omega)) rfl rfl rfl rfl ?_
          refine And.intro ?_ ?_
          · show aCall _ _ _ _ _ _ _
            refine aCall_ret (L := []) rfl rfl rfl (ih els (by omega) (by omega)) rfl rfl rfl rfl ?_
            refine And.intro ?_ ?_
            · refine hK _ ?_; clear hK hp K pan
              exact ⟨_, sub_norm (slots := [0, 3, 4, 5]) rfl rfl, rfl⟩
            refine And.intro ?_ ?_
            · refine hK _ ?_; clear hK hp K pan
              exact ⟨_, sub_norm (slots := [0, 3, 4, 5]) rfl rfl, rfl⟩
            trivial
          refine And.intro ?_ ?_
          · show aCall _ _ _ _ _ _ _
            refine aCall_ret (L := []) rfl rfl rfl (ih els (by omega) (by omega)) rfl rfl rfl rfl ?_
            refine hK _ ?_; clear hK hp K pan
            exact ⟨_, sub_norm (slots := [0, 3, 4, 5]) rfl rfl, rfl⟩
          trivial
        refine And.intro ?_ ?_
        · show aCall _ _ _ _ _ _ _
          refine aCall_ret (L := []) rfl rfl rfl (ih body (by omega) (by omega)) rfl rfl rfl rfl ?_
          show aCall _ _ _ _ _ _ _
          refine aCall_ret (L := []) rfl rfl rfl (ih els (by omega) (by omega)) rfl rfl rfl rfl ?_
          refine hK _ ?_; clear hK hp K pan
          exact ⟨_, sub_norm (slots := [0, 3, 4, 5]) rfl rfl, rfl⟩
        trivial
      refine And.intro ?_ ?_
      · show aCall _ _ _ _ _ _ _
        refine aCall_ret (L := []) rfl rfl rfl (exprsOf_all G args (by omega)) rfl rfl rfl rfl ?_
        show aCall _ _ _ _ _ _ _
        refine aCall_ret (L := []) rfl rfl rfl (ih body (by omega) (by omega)) rfl rfl rfl rfl ?_
        show aCall _ _ _ _ _ _ _
        refine aCall_ret (L := []) rfl rfl rfl (ih els (by omega) (by omega)) rfl rfl rfl rfl ?_
        refine hK _ ?_; clear hK hp K pan
        exact ⟨_, sub_norm (slots := [0, 3, 4, 5]) rfl rfl, rfl⟩
      trivial
    rintro Z rfl
    refine awp_seq ?_; refine awp_seq ?_; refine rgn fun pan K hp hK => ?_; refine hK _ ?_; clear hK hp K pan; refine awp_norm [0, 3, 4, 5, 6] rfl rfl ?_
    refine awp_accCell 1 4 123 1 rfl rfl rfl rfl ?_
    refine awp_norm [0, 3, 4, 5, 6] rfl rfl ?_; refine awp_block ?_
    refine awp_loop (fun k Y => ∃ (d2 e2 : List (List Ts)), k = e2.length ∧ cond = d2 ++ e2 ∧ Y = ⟨[(0, .d (.sl 7 (sms (d1 ++ .mk kind name proc args cond body els :: e1b)))), (3, .acc 0), (4, .d (num d1.length)), (5, .box 1 0), (6, .d (num d2.length))], [.acc 217 7 (sms d1), .box 217 [.d (str kind), .d (str name), .d (str proc), .d (.sl 4 (exs args)), .acc 2, .d (.sl 7 (sms body)), .d (.sl 7 (sms els))], .acc 123 1 (cnd d2)]⟩) (cond.length) (⟨[], cond, rfl, rfl, rfl⟩) ?_
    rintro k Y ⟨d2, e2, rfl, hl2, rfl⟩
    have hll2 : (cnd cond).length = d2.length + e2.length := by rw [cnd_len3, hl2, List.length_append]
    have hdl2 : d2.length + e2.length ≤ 1073741824 := by rw [hl2, List.length_append] at hbig2; exact hbig2
    refine awp_seq ?_; refine awp_seq ?_; refine rgn fun pan K hp hK => ?_
    refine And.intro ((by omega)) (Exists.intro _ (And.intro (sms_at2 rfl) ?_))
    refine hK _ ?_; clear hK hp K pan; refine awp_norm [0, 3, 4, 5, 6, 54] rfl rfl ?_
    refine awp_cond2 rfl (onB_intro (fun h2 => ?_) (fun h2 => ?_))
    · have h2' := of_decide_eq_true h2
      rw [hll2] at h2'
      cases e2 with
      | nil => simp only [List.length_nil] at h2'; omega
      | cons x e2b =>
      subst hl2
      simp only [List.length_cons] at hdl2
      have hcx := wtC_app d2 (x :: e2b)
      simp only [wtC] at hcx
      refine awp_skip ?_; refine awp_seq ?_; refine awp_block ?_
      refine (awp_draw TT_ok mixed p83_9 [12, 14] (fun i => Nat.beq i 1) (by kernel_rfl) fun pan K hp hK => ?_)
      refine And.intro ((by omega)) (Exists.intro _ (And.intro (sms_at2 rfl) ?_))
      refine And.intro (by omega) (Exists.intro _ (And.intro (cnd_at rfl) ?_))
      show aCall _ _ _ _ _ _ _
      refine aCall_ret (L := []) rfl rfl rfl (testsOf_spec G x (by omega)) rfl rfl rfl rfl ?_
      refine And.intro (And.intro ((by simp only [cnd_len3, chunk_length]; omega)) ((by simp only [cnd_len3, chunk_length, maxLen]; omega))) ?_
      refine hK _ ?_; clear hK hp K pan; refine awp_norm [0, 3, 4, 5, 6] rfl rfl ?_; refine rgn fun pan K hp hK => ?_; refine hK _ ?_; clear hK hp K pan
      exact ⟨_, Nat.lt_succ_self _, _, sub_pick (L := [0, 1, 2]) (slots := [0, 3, 4, 5, 6]) rfl rfl rfl rfl rfl, d2 ++ [x], e2b, rfl, by simp, by rw [← cnd_snoc, List.length_append, wrapId (by omega) (by omega)]; rfl⟩
    have h2' := of_decide_eq_false h2
    rw [hll2] at h2'
    obtain rfl : e2 = [] := List.eq_nil_of_length_eq_zero (by omega)
    rw [List.append_nil] at hl2
    subst hl2
    refine awp_exit ?_
    refine awp_norm [0, 3, 4, 5] rfl rfl ?_; refine rgn fun pan K hp hK => ?_
    refine And.intro (And.intro ((by simp only [sms_len2, chunk_length]; omega)) ((by simp only [sms_len2, chunk_length, maxLen]; omega))) ?_
    refine hK _ ?_; clear hK hp K pan; refine awp_norm [0, 3, 4] rfl rfl ?_; refine rgn fun pan K hp hK => ?_; refine hK _ ?_; clear hK hp K pan
    exact ⟨_, Nat.lt_succ_self _, _, sub_pick (L := [0]) (slots := [0, 3, 4]) rfl rfl rfl rfl rfl, d1 ++ [.mk kind name proc args cond body els], e1b, rfl, by simp, by rw [← sms_snoc2, List.length_append, wrapId (by omega) (by omega)]; rfl⟩
  have h1' := of_decide_eq_false h1
  rw [hll1] at h1'
  obtain rfl : e1 = [] := List.eq_nil_of_length_eq_zero (by omega)
  rw [List.append_nil] at hl1
  subst hl1
  refine awp_exit ?_
  refine awp_norm [3] rfl rfl ?_; refine awp_seq ?_; refine rgn fun pan K hp hK => ?_; refine hK _ ?_; clear hK hp K pan; refine awp_norm [2] rfl rfl ?_; refine awp_ret ?_
  exact ⟨_, [], _, [.d (.sl 7 (sms l))], rfl, rfl, rfl, rfl, rfl, PWs.refl _, rfl⟩
theorem stmtsOf_spec (G : Glob) : ∀ m, OfS G m
  | 0 => fun l h => absurd h (by omega)
  | m + 1 => stmtsOf_step G m (stmtsOf_spec G m)
theorem stmtsOf_all (G : Glob) (l : List Sm) (hw : wtB l ≤ 1000000000) : Spec Tryz.prog G 83 [.d (.sl 7 (sms l))] [] (.ret (.d (.sl 7 (sms l)))) [] := stmtsOf_spec G (fuB l + 1) l (Nat.lt_succ_self _) hw
def p23_6 : Plan := (.take 0 (.load 1 (.take 2 (.load 3 (.take 4 (.take 5 (.take 6 (.load 7 (.take 8 (.load 9 (.take 10 (.take 11 (.take 12 (.load 13 (.one 14 (.one 15 (.one 16 (.take 17 (.one 18 .done)))))))))))))))))))
def p23_10 : Plan := (.take 0 (.load 1 (.take 2 (.take 3 (.take 4 (.load 5 (.take 6 (.load 7 (.take 8 (.take 9 (.take 10 (.load 11 (.take 13 (.load 14 (.take 15 (.take 16 (.take 17 (.load 18 (.alt 12 (.alt 19 (.alt 20 (.one 21 (.one 22 .done)) (.alt 21 (.one 20 (.one 22 .done)) .done)) (.alt 21 (.one 19 (.one 20 (.one 22 .done))) .done)) (.alt 21 (.one 12 (.one 19 (.one 20 (.one 22 .done)))) .done))))))))))))))))))))
def p23_11 : Plan := (.take 0 (.load 1 (.take 2 (.load 3 (.take 4 (.take 5 (.take 6 (.load 7 (.one 8 (.take 9 (.one 10 .done)))))))))))
theorem programOf_spec (G : Glob) (p : Pg) (hw : wtPg p ≤ 1000000000) : Spec Tryz.prog G 23 [.d (.agg p.cs)] [] (.ret (.d (.agg p.cs))) [] := by
  obtain ⟨vars, arrays, procs, main⟩ := p
  simp only [wtPg] at hw
  have h1 := wtV_len vars
  have h2 := wtA_len arrays
  have h3 := wtP_len procs
  have hb1 : arrays.length ≤ 1073741824 := by omega
  have hb2 : procs.length ≤ 1073741824 := by omega
  refine spec_of_awp2 TT_ok (N := 87) Tryz.func23 rfl (by rfl) (Nat.le_refl _) rfl ?_
  refine awp_seq ?_; refine rgn fun pan K hp hK => ?_; refine hK _ ?_; clear hK hp K pan; refine awp_norm [1, 2] rfl rfl ?_; refine awp_seq ?_; refine rgn fun pan K hp hK => ?_; show aCall _ _ _ _ _ _ _
  refine aCall_ret (L := []) rfl rfl rfl (stmtsOf_all G main (by omega)) rfl rfl rfl rfl ?_
  refine hK _ ?_; clear hK hp K pan; refine awp_norm [1, 2, 3] rfl rfl ?_
  refine awp_accCell 2 0 9 1 rfl rfl rfl rfl ?_
  refine awp_accCell 2 1 169 2 rfl rfl rfl rfl ?_
  refine awp_accCell 2 2 159 7 rfl rfl rfl rfl ?_
  refine awp_norm [1, 2, 3] rfl rfl ?_; refine awp_seq ?_; refine rgn fun pan K hp hK => ?_
  refine And.intro (And.intro ((by simp only [strs_length, List.length_nil]; omega)) ((by simp only [strs_length, List.length_nil, maxLen]; omega))) ?_
  refine hK _ ?_; clear hK hp K pan; refine awp_norm [1, 2, 3] rfl rfl ?_; refine awp_seq ?_; refine awp_seq ?_; refine rgn fun pan K hp hK => ?_; refine hK _ ?_; clear hK hp K pan; refine awp_norm [1, 2, 3, 4] rfl rfl ?_; refine awp_block ?_
  refine awp_loop (fun k Y => ∃ (d1 e1 : List Ar), k = e1.length ∧ arrays = d1 ++ e1 ∧ Y = ⟨[(1, .box 0 0), (2, .box 1 0), (3, .box 2 0), (4, .d (num d1.length))], [.box 37 [.d (.sl 1 (strs vars)), .d (.sl 2 (ars arrays)), .d (.sl 7 (pcs procs)), .d (.sl 7 (sms main))], .box 28 [.d (.s (.slice none 0 0)), .d (.s (.slice none 0 0)), .d (.s (.slice none 0 0)), .d (.s (.slice none 0 0))], .box 28 [.acc 3, .acc 4, .acc 5, .d (.sl 7 (sms main))], .acc 9 1 (strs vars), .acc 169 2 (ars d1), .acc 159 7 (pcs [])]⟩) (arrays.length) (⟨[], arrays, rfl, rfl, rfl⟩) ?_
  rintro k Y ⟨d1, e1, rfl, hl1, rfl⟩
  have hll1 : (ars arrays).length = d1.length + e1.length := by rw [ars, List.length_map, hl1, List.length_append]
  have hdl1 : d1.length + e1.length ≤ 1073741824 := by rw [hl1, List.length_append] at hb1; exact hb1
  refine awp_seq ?_; refine awp_seq ?_; refine rgn fun pan K hp hK => ?_; refine hK _ ?_; clear hK hp K pan; refine awp_norm [1, 2, 3, 4, 21] rfl rfl ?_
  refine awp_cond2 rfl (onB_intro (fun h1 => ?_) (fun h1 => ?_))
  · have h1' := of_decide_eq_true h1
    rw [hll1] at h1'
    cases e1 with
    | nil => simp only [List.length_nil] at h1'; omega
    | cons x e1b =>
    obtain ⟨nm, sz⟩ := x
    subst hl1
    simp only [List.length_cons] at hdl1
    refine awp_skip ?_; refine awp_seq ?_; refine awp_block ?_
    refine (awp_draw TT_ok mixed p23_6 [16, 18] (fun _ => true) (by kernel_rfl) fun pan K hp hK => ?_)
    refine And.intro (by omega) (Exists.intro _ (And.intro (ars_at rfl) ?_))
    refine And.intro (by omega) (Exists.intro _ (And.intro (ars_at rfl) ?_))
    refine And.intro (And.intro ((by simp only [ars, List.length_map, chunk_length]; omega)) ((by simp only [ars, List.length_map, chunk_length, maxLen]; omega))) ?_
    refine hK _ ?_; clear hK hp K pan; refine awp_norm [1, 2, 3, 4] rfl rfl ?_; refine rgn fun pan K hp hK => ?_; refine hK _ ?_; clear hK hp K pan
    exact ⟨_, Nat.lt_succ_self _, _, sub_pick (L := [0, 1, 2, 3, 4, 5]) (slots := [1, 2, 3, 4]) rfl rfl rfl rfl rfl, d1 ++ [⟨nm, sz⟩], e1b, rfl, by simp, by rw [← ars_snoc, List.length_append, wrapId (by omega) (by omega)]; rfl⟩
  have h1' := of_decide_eq_false h1
  rw [hll1] at h1'
  obtain rfl : e1 = [] := List.eq_nil_of_length_eq_zero (by omega)
  rw [List.append_nil] at hl1
  subst hl1
  refine awp_exit ?_
  refine awp_norm [1, 2, 3] rfl rfl ?_; refine awp_seq ?_; refine awp_seq ?_; refine rgn fun pan K hp hK => ?_; refine hK _ ?_; clear hK hp K pan; refine awp_norm [1, 2, 3, 5] rfl rfl ?_; refine awp_block ?_
  refine awp_loop (fun k Y => ∃ (d2 e2 : List Pc), k = e2.length ∧ procs = d2 ++ e2 ∧ Y = ⟨[(1, .box 0 0), (2, .box 1 0), (3, .box 2 0), (5, .d (num d2.length))], [.box 37 [.d (.sl 1 (strs vars)), .d (.sl 2 (ars arrays)), .d (.sl 7 (pcs procs)), .d (.sl 7 (sms main))], .box 28 [.d (.s (.slice none 0 0)), .d (.s (.slice none 0 0)), .d (.s (.slice none 0 0)), .d (.s (.slice none 0 0))], .box 28 [.acc 3, .acc 4, .acc 5, .d (.sl 7 (sms main))], .acc 9 1 (strs vars), .acc 169 2 (ars arrays), .acc 159 7 (pcs d2)]⟩) (procs.length) (⟨[], procs, rfl, rfl, rfl⟩) ?_
  rintro k Y ⟨d2, e2, rfl, hl2, rfl⟩
  have hll2 : (pcs procs).length = d2.length + e2.length := by rw [pcs, List.length_map, hl2, List.length_append]
  have hdl2 : d2.length + e2.length ≤ 1073741824 := by rw [hl2, List.length_append] at hb2; exact hb2
  refine awp_seq ?_; refine awp_seq ?_; refine rgn fun pan K hp hK => ?_; refine hK _ ?_; clear hK hp K pan; refine awp_norm [1, 2, 3, 5, 46] rfl rfl ?_
  refine awp_cond2 rfl (onB_intro (fun h2 => ?_) (fun h2 => ?_))
  · have h2' := of_decide_eq_true h2
    rw [hll2] at h2'
    cases e2 with
    | nil => simp only [List.length_nil] at h2'; omega
    | cons x e2b =>
    obtain ⟨nm, ps, bd, rt⟩ := x
    obtain ⟨p1, n1, m1, l1⟩ := rt
    subst hl2
    simp only [List.length_cons] at hdl2
    have hpx := wtP_app d2 (⟨nm, ps, bd, .mk p1 n1 m1 l1⟩ :: e2b)
    simp only [wtP] at hpx
    have hpl := wtV_len ps
    refine awp_skip ?_; refine awp_seq ?_; refine awp_block ?_
    refine awp_cut (fun Z => Z = ⟨[(1, .box 0 0), (2, .box 1 0), (3, .box 2 0), (5, .d (num d2.length)), (6, .box 6 0)], [.box 37 [.d (.sl 1 (strs vars)), .d (.sl 2 (ars arrays)), .d (.sl 7 (pcs (d2 ++ ⟨nm, ps, bd, .mk p1 n1 m1 l1⟩ :: e2b))), .d (.sl 7 (sms main))], .box 28 [.d (.s (.slice none 0 0)), .d (.s (.slice none 0 0)), .d (.s (.slice none 0 0)), .d (.s (.slice none 0 0))], .box 28 [.acc 3, .acc 4, .acc 5, .d (.sl 7 (sms main))], .acc 9 1 (strs vars), .acc 169 2 (ars arrays), .acc 159 7 (pcs d2), .box 159 [.d (str nm), .d (.s (.slice none 0 0)), .d (.sl 7 (sms bd)), .d (str p1), .d (num n1), .d (str m1), .d (.sl 4 (exs l1))]]⟩) ?_ ?_
    · refine (awp_draw TT_ok mixed p23_10 [22] (fun i => Nat.beq i 0) (by kernel_rfl) fun pan K hp hK => ?_)
      refine And.intro (by omega) (Exists.intro _ (And.intro (pcs_at rfl) ?_))
      refine And.intro (by omega) (Exists.intro _ (And.intro (pcs_at rfl) ?_))
      refine And.intro (by omega) (Exists.intro _ (And.intro (pcs_at rfl) ?_))
      refine And.intro ?_ ?_
      · show aCall _ _ _ _ _ _ _
        refine aCall_ret (L := []) rfl rfl rfl (stmtsOf_all G bd (by omega)) rfl rfl rfl rfl ?_
        refine And.intro ?_ ?_
        · show aCall _ _ _ _ _ _ _
          refine aCall_ret (L := []) rfl rfl rfl (exprOf_spec G (.mk p1 n1 m1 l1) (by omega)) rfl rfl rfl rfl ?_
          refine And.intro ?_ ?_
          · refine hK _ ?_; clear hK hp K pan
            exact ⟨_, sub_norm (slots := [1, 2, 3, 5, 6]) rfl rfl, rfl⟩
          refine And.intro ?_ ?_
          · refine hK _ ?_; clear hK hp K pan
            exact ⟨_, sub_norm (slots := [1, 2, 3, 5, 6]) rfl rfl, rfl⟩
          trivial
        refine And.intro ?_ ?_
        · show aCall _ _ _ _ _ _ _
          refine aCall_ret (L := []) rfl rfl rfl (exprOf_spec G (.mk p1 n1 m1 l1) (by omega)) rfl rfl rfl rfl ?_
          refine hK _ ?_; clear hK hp K pan
          exact ⟨_, sub_norm (slots := [1, 2, 3, 5, 6]) rfl rfl, rfl⟩
        trivial
      refine And.intro ?_ ?_
      · show aCall _ _ _ _ _ _ _
        refine aCall_ret (L := []) rfl rfl rfl (stmtsOf_all G bd (by omega)) rfl rfl rfl rfl ?_
        show aCall _ _ _ _ _ _ _
        refine aCall_ret (L := []) rfl rfl rfl (exprOf_spec G (.mk p1 n1 m1 l1) (by omega)) rfl rfl rfl rfl ?_
        refine hK _ ?_; clear hK hp K pan
        exact ⟨_, sub_norm (slots := [1, 2, 3, 5, 6]) rfl rfl, rfl⟩
      trivial
    rintro Z rfl
    refine awp_accCell 6 1 9 1 rfl rfl rfl rfl ?_
    refine awp_norm [1, 2, 3, 5, 6] rfl rfl ?_; refine awp_seq ?_
    refine (awp_draw TT_ok mixed p23_11 [8, 10] (fun _ => true) (by kernel_rfl) fun pan K hp hK => ?_)
    refine And.intro (by omega) (Exists.intro _ (And.intro (pcs_at rfl) ?_))
    refine And.intro (And.intro ((by simp only [strs_length, List.length_nil]; omega)) ((by simp only [strs_length, List.length_nil, maxLen]; omega))) ?_
    refine hK _ ?_; clear hK hp K pan; refine awp_norm [1, 2, 3, 5, 6] rfl rfl ?_; refine rgn fun pan K hp hK => ?_
    refine And.intro (And.intro ((by simp only [pcs, List.length_map, chunk_length]; omega)) ((by simp only [pcs, List.length_map, chunk_length, maxLen]; omega))) ?_
    refine hK _ ?_; clear hK hp K pan; refine awp_norm [1, 2, 3, 5] rfl rfl ?_; refine rgn fun pan K hp hK => ?_; refine hK _ ?_; clear hK hp K pan
    exact ⟨_, Nat.lt_succ_self _, _, sub_pick (L := [0, 1, 2, 3, 4, 5]) (slots := [1, 2, 3, 5]) rfl rfl rfl rfl rfl, d2 ++ [⟨nm, ps, bd, .mk p1 n1 m1 l1⟩], e2b, rfl, by simp, by rw [← pcs_snoc, List.length_append, wrapId (by omega) (by omega)]; rfl⟩
  have h2' := of_decide_eq_false h2
  rw [hll2] at h2'
  obtain rfl : e2 = [] := List.eq_nil_of_length_eq_zero (by omega)
  rw [List.append_nil] at hl2
  subst hl2
  refine awp_exit ?_
  refine awp_norm [2, 3] rfl rfl ?_; refine awp_seq ?_; refine rgn fun pan K hp hK => ?_; refine hK _ ?_; clear hK hp K pan; refine awp_norm [2] rfl rfl ?_; refine awp_ret ?_
  exact ⟨_, [], _, [encP ⟨vars, arrays, procs, main⟩], rfl, rfl, rfl, rfl, rfl, PWs.refl _, rfl⟩
end Go.Abs
end
section
namespace Go.Abs
open Go Go.Proofs
def GTs {s : ByteArray} (p : PS s) (t : Ts) (q : PS s) : Prop := rst s q < rst s p ∧ fuT t + 2 * rst s q ≤ 2 * rst s p ∧ wtT t + 100 + 200 * rst s q ≤ 200 * rst s p ∧ nmT t = true
theorem testOkP (s : ByteArray) (n : Nat) (p : PS s) (hn : 8 * rst s p + 3 ≤ n) : RG (testF s n p) (GTs p) := by
  obtain ⟨_, _, _, hT, _⟩ := exG s n
  unfold testF
  refine (hT 1 p hn).bind fun a q hq => ?_
  obtain ⟨a1, a2, a3, a4⟩ := hq
  cases h1 : isRelF q.w with
  | false => trivial
  | true =>
    have hs := isRelF_size h1
    have hx := rst_nx q
    refine (hT 1 (nx s q) (by omega)).bind fun b q2 hq => ?_
    obtain ⟨b1, b2, b3, b4⟩ := hq
    refine ⟨by omega, ?_, ?_, ?_⟩
    · simp only [fuT]; omega
    · simp only [wtT]; omega
    simp only [nmT, a4, b4]; rfl
theorem fuR_snoc : ∀ (r : List Ts) (t : Ts), fuR (r ++ [t]) = fuR r + fuT t
  | [], t => by simp [fuR]
  | x :: r, t => by simp only [List.cons_append, fuR, fuR_snoc r t]; omega
theorem wtR_snoc : ∀ (r : List Ts) (t : Ts), wtR (r ++ [t]) = wtR r + wtT t + 5
  | [], t => by simp only [List.nil_append, wtR]; omega
  | x :: r, t => by simp only [List.cons_append, wtR, wtR_snoc r t]; omega
theorem nmR_snoc : ∀ (r : List Ts) (t : Ts), nmR (r ++ [t]) = (nmR r && nmT t)
  | [], t => by simp [nmR]
  | x :: r, t => by simp only [List.cons_append, nmR, nmR_snoc r t, Bool.and_assoc]
def GRw {s : ByteArray} (p : PS s) (r : List Ts) (q : PS s) : Prop := rst s q < rst s p ∧ fuR r + 2 * rst s q ≤ 2 * rst s p ∧ wtR r + 50 + 200 * rst s q ≤ 200 * rst s p ∧ nmR r = true
theorem andOkP (s : ByteArray) : ∀ (n : Nat) (row : List Ts) (p p0 : PS s), 8 * rst s p + 4 ≤ n → GRw p0 row p → RG (andL s n row p) (GRw p0)
  | 0, row, p, p0, hn, _ => absurd hn (by omega)
  | n + 1, row, p, p0, hn, hr => by
    simp only [andL]
    cases h1 : eqW p.w ⟨#[97, 110, 100]⟩ with
    | false => exact hr
    | true =>
      have hs := eqW_size h1
      have z : (⟨#[97, 110, 100]⟩ : ByteArray).size = 3 := rfl
      have hx := rst_nx p
      refine (testOkP s n (nx s p) (by omega)).bind fun t q hq => ?_
      obtain ⟨a1, a2, a3, a4⟩ := hq
      obtain ⟨r1, r2, r3, r4⟩ := hr
      refine andOkP s n _ q p0 (by omega) ⟨by omega, ?_, ?_, ?_⟩
      · rw [fuR_snoc]; omega
      · rw [wtR_snoc]; omega
      rw [nmR_snoc, r4, a4]; rfl
theorem rowOkP (s : ByteArray) (n : Nat) (p : PS s) (hn : 8 * rst s p + 4 ≤ n) : RG (rowF s n p) (GRw p) := by
  unfold rowF
  cases h1 : eqW p.w ⟨#[116, 114, 117, 101]⟩ with
  | true =>
    have hs := eqW_size h1
    have z : (⟨#[116, 114, 117, 101]⟩ : ByteArray).size = 4 := rfl
    have hx := rst_nx p
    refine ⟨by omega, ?_, ?_, rfl⟩
    · simp only [fuR]; omega
    simp only [wtR]; omega
  | false =>
    refine (testOkP s n p (by omega)).bind fun t q hq => ?_
    obtain ⟨a1, a2, a3, a4⟩ := hq
    refine andOkP s n _ q p (by omega) ⟨a1, ?_, ?_, ?_⟩
    · simp only [fuR]; omega
    · simp only [wtR]; omega
    simp only [nmR, a4]; rfl
theorem fuC_snoc : ∀ (r : List (List Ts)) (t : List Ts), fuC (r ++ [t]) = fuC r + fuR t
  | [], t => by simp [fuC]
  | x :: r, t => by simp only [List.cons_append, fuC, fuC_snoc r t]; omega
theorem wtC_snoc : ∀ (r : List (List Ts)) (t : List Ts), wtC (r ++ [t]) = wtC r + wtR t + 4
  | [], t => by simp only [List.nil_append, wtC]; omega
  | x :: r, t => by simp only [List.cons_append, wtC, wtC_snoc r t]; omega
theorem nmC_snoc : ∀ (r : List (List Ts)) (t : List Ts), nmC (r ++ [t]) = (nmC r && nmR t)
  | [], t => by simp [nmC]
  | x :: r, t => by simp only [List.cons_append, nmC, nmC_snoc r t, Bool.and_assoc]
def GC {s : ByteArray} (p : PS s) (c : List (List Ts)) (q : PS s) : Prop := rst s q ≤ rst s p ∧ fuC c + 2 * rst s q ≤ 2 * rst s p ∧ wtC c + 200 * rst s q ≤ 200 * rst s p + 10 ∧ nmC c = true
theorem conOkP (s : ByteArray) : ∀ (n : Nat) (acc : List (List Ts)) (p p0 : PS s), 8 * rst s p + 5 ≤ n → GC p0 acc p → RG (condL s n acc p) (fun c q => GC p0 c q ∧ rst s q < rst s p0)
  | 0, acc, p, p0, hn, _ => absurd hn (by omega)
  | n + 1, acc, p, p0, hn, hr => by
    simp only [condL]
    refine (rowOkP s n p (by omega)).bind fun row q hq => ?_
    obtain ⟨a1, a2, a3, a4⟩ := hq
    obtain ⟨r1, r2, r3, r4⟩ := hr
    have hx := rst_nx q
    cases h1 : eqW q.w ⟨#[111, 114]⟩ with
    | false =>
      refine ⟨⟨by omega, ?_, ?_, ?_⟩, by omega⟩
      · rw [fuC_snoc]; omega
      · rw [wtC_snoc]; omega
      rw [nmC_snoc, r4, a4]; rfl
    | true =>
      refine conOkP s n _ _ p0 (by omega) ⟨by omega, ?_, ?_, ?_⟩
      · rw [fuC_snoc]; omega
      · rw [wtC_snoc]; omega
      rw [nmC_snoc, r4, a4]; rfl
theorem condOkP (s : ByteArray) (n : Nat) (p : PS s) (hn : 8 * rst s p + 5 ≤ n) : RG (condF s n p) (fun c q => GC p c q ∧ rst s q < rst s p) := by
  unfold condF
  cases h1 : eqW p.w ⟨#[102, 97, 108, 115, 101]⟩ with
  | true =>
    have hs := eqW_size h1
    have z : (⟨#[102, 97, 108, 115, 101]⟩ : ByteArray).size = 5 := rfl
    have hx := rst_nx p
    refine ⟨⟨by omega, ?_, ?_, rfl⟩, by omega⟩
    · simp only [fuC]; omega
    simp only [wtC]; omega
  | false =>
    refine conOkP s n [] p p (by omega) ⟨Nat.le_refl _, ?_, ?_, rfl⟩
    · simp only [fuC]; omega
    simp only [wtC]; omega
mutual
def dpS : Sm → Int
  | .mk _ _ _ _ _ body els => 1 + max (dpB body) (dpB els)
def dpB : List Sm → Int
  | [] => 0
  | s :: r => max (dpS s) (dpB r)
end
theorem dpB_snoc : ∀ (l : List Sm) (x : Sm), dpB (l ++ [x]) = max (dpB l) (max (dpS x) 0)
  | [], x => by simp only [List.nil_append, dpB] <;> omega
  | y :: l, x => by simp only [List.cons_append, dpB, dpB_snoc l x] <;> omega
theorem wtB_snoc : ∀ (l : List Sm) (x : Sm), wtB (l ++ [x]) = wtB l + wtS x + 1
  | [], x => by simp only [List.nil_append, wtB] <;> omega
  | y :: l, x => by simp only [List.cons_append, wtB, wtB_snoc l x] <;> omega
theorem fuB_snoc : ∀ (l : List Sm) (x : Sm), fuB (l ++ [x]) = fuB l + fuS x + 2
  | [], x => by simp only [List.nil_append, fuB] <;> omega
  | y :: l, x => by simp only [List.cons_append, fuB, fuB_snoc l x] <;> omega
theorem okB_snoc (N : Nat) : ∀ (l : List Sm) (x : Sm), okB N (l ++ [x]) = (okB N l && okS N x)
  | [], x => by simp [okB]
  | y :: l, x => by simp only [List.cons_append, okB, okB_snoc N l x, Bool.and_assoc]
theorem wtL_snoc : ∀ (l : List Ex) (x : Ex), wtL (l ++ [x]) = wtL l + wtE x + 2
  | [], x => by simp only [List.nil_append, wtL] <;> omega
  | y :: l, x => by simp only [List.cons_append, wtL, wtL_snoc l x]; omega
theorem fuL_snoc : ∀ (l : List Ex) (x : Ex), fuL (l ++ [x]) = fuL l + fuE x + 1
  | [], x => by simp only [List.nil_append, fuL]; omega
  | y :: l, x => by simp only [List.cons_append, fuL, fuL_snoc l x]; omega
theorem nmL_snoc : ∀ (l : List Ex) (x : Ex), nmL (l ++ [x]) = (nmL l && nmE x)
  | [], x => by simp [nmL]
  | y :: l, x => by simp only [List.cons_append, nmL, nmL_snoc l x, Bool.and_assoc]
def GS (N : Nat) {s : ByteArray} (d : Int) (p : PS s) (x : Sm) (q : PS s) : Prop := rst s q < rst s p ∧ fuS x + 2 + 4 * rst s q ≤ 4 * rst s p ∧ wtS x + 20 + 200 * rst s q ≤ 200 * rst s p ∧ okS N x = true ∧ dpS x ≤ 13 - d
def GB (N : Nat) {s : ByteArray} (d : Int) (p : PS s) (l : List Sm) (q : PS s) : Prop := rst s q ≤ rst s p ∧ fuB l + 4 * rst s q ≤ 4 * rst s p + 2 ∧ wtB l + 200 * rst s q ≤ 200 * rst s p + 1 ∧ okB N l = true ∧ dpB l ≤ 13 - d
def GL {s : ByteArray} (p : PS s) (l : List Ex) (q : PS s) : Prop := rst s q ≤ rst s p ∧ fuL l + 2 * rst s q ≤ 2 * rst s p ∧ wtL l + 200 * rst s q ≤ 200 * rst s p ∧ nmL l = true
theorem argOkP (s : ByteArray) : ∀ (n : Nat) (acc : List Ex) (p p0 : PS s), 8 * rst s p + 4 ≤ n → GL p0 acc p → RG (argsL s n acc p) (GL p0)
  | 0, acc, p, p0, hn, _ => absurd hn (by omega)
  | n + 1, acc, p, p0, hn, hr => by
    obtain ⟨_, _, _, hT, _⟩ := exG s n
    obtain ⟨r1, r2, r3, r4⟩ := hr
    simp only [argsL]
    have hx := rst_nx p
    cases h1 : (!eqW p.w ⟨#[41]⟩) with
    | false => exact ⟨by omega, by omega, by omega, r4⟩
    | true =>
      cases decide ((acc.length : Int) > 0) with
      | true =>
        refine (take_rg _ p).bind fun _ q1 h2 => ?_
        refine (hT 1 q1 (by omega)).bind fun e q hq => ?_
        obtain ⟨a1, a2, a3, a4⟩ := hq
        refine argOkP s n _ q p0 (by omega) ⟨by omega, ?_, ?_, ?_⟩
        · rw [fuL_snoc]; omega
        · rw [wtL_snoc]; omega
        rw [nmL_snoc, r4, a4]; rfl
      | false =>
        refine (hT 1 p (by omega)).bind fun e q hq => ?_
        obtain ⟨a1, a2, a3, a4⟩ := hq
        refine argOkP s n _ q p0 (by omega) ⟨by omega, ?_, ?_, ?_⟩
        · rw [fuL_snoc]; omega
        · rw [wtL_snoc]; omega
        rw [nmL_snoc, r4, a4]; rfl
def SmG (N : Nat) (s : ByteArray) (n : Nat) : Prop :=
  (∀ d acc p p0, 0 ≤ d → d ≤ 13 → 8 * rst s p + 2 ≤ n → GB N d p0 acc p → RG (stmtsL s n d acc p) (GB N d p0)) ∧
  (∀ d p, 0 ≤ d → d ≤ 13 → 8 * rst s p + 1 ≤ n → RG (blockF s n d p) (fun l q => GB N d p l q ∧ rst s q + 2 ≤ rst s p ∧ wtB l + 400 + 200 * rst s q ≤ 200 * rst s p + 1 ∧ fuB l + 8 + 4 * rst s q ≤ 4 * rst s p + 2)) ∧
  (∀ d p, 0 ≤ d → d ≤ 12 → rst s p ≤ 4000 → 8 * rst s p + 1 ≤ n → RG (stmtF s n d p) (GS N d p))
theorem smG_step (N : Nat) (s : ByteArray) (hs : s.size ≤ 4000) (hN : 2 * s.size ≤ N) (n : Nat) (ih : SmG N s n) : SmG N s (n + 1) := by
  obtain ⟨hS, hB, hT⟩ := ih
  obtain ⟨_, _, _, hE, _⟩ := exG s n
  have hr2 : ∀ p : PS s, rst s p ≤ s.size := fun p => by unfold rst; omega
  have hr : ∀ p : PS s, rst s p ≤ 4000 := fun p => by have := hr2 p; omega
  have z_0 : (⟨#[105, 102]⟩ : ByteArray).size = 2 := rfl
  have z_1 : (⟨#[119, 104, 105, 108, 101]⟩ : ByteArray).size = 5 := rfl
  have z_2 : (⟨#[101, 108, 115, 101]⟩ : ByteArray).size = 4 := rfl
  have z_3 : (⟨#[97, 115, 115, 101, 114, 116]⟩ : ByteArray).size = 6 := rfl
  have z_4 : (⟨#[97, 115, 115, 117, 109, 101]⟩ : ByteArray).size = 6 := rfl
  have z_5 : (⟨#[114, 101, 97, 100]⟩ : ByteArray).size = 4 := rfl
  have z_6 : (⟨#[123]⟩ : ByteArray).size = 1 := rfl
  have z_7 : (⟨#[125]⟩ : ByteArray).size = 1 := rfl
  have z_8 : (⟨#[59]⟩ : ByteArray).size = 1 := rfl
  have z_9 : (⟨#[91]⟩ : ByteArray).size = 1 := rfl
  have z_10 : (⟨#[93]⟩ : ByteArray).size = 1 := rfl
  have z_11 : (⟨#[61]⟩ : ByteArray).size = 1 := rfl
  have z_12 : (⟨#[99, 97, 108, 108]⟩ : ByteArray).size = 4 := rfl
  have z_13 : (⟨#[40]⟩ : ByteArray).size = 1 := rfl
  have z_14 : (⟨#[112, 117, 116]⟩ : ByteArray).size = 3 := rfl
  have z_15 : (⟨#[115, 101, 116]⟩ : ByteArray).size = 3 := rfl
  have z0 : (⟨#[]⟩ : ByteArray).size = 0 := rfl
  have d0 : decide (0 ≤ N) = true := decide_eq_true (Nat.zero_le _)
  refine ⟨?_, ?_, ?_⟩
  · intro d acc p p0 h0 h13 hn hg
    simp only [stmtsL]
    cases (!eqW p.w ⟨#[125]⟩ && !eqW p.w ⟨#[114, 101, 116, 117, 114, 110]⟩) with
    | false => exact hg
    | true =>
      cases hd : decide (d > 12) with
      | true => trivial
      | false =>
        have hd' := of_decide_eq_false hd
        refine (hT d p h0 (by omega) (hr p) (by omega)).bind fun st q hq => ?_
        obtain ⟨a1, a2, a3, a4, a5⟩ := hq
        obtain ⟨b1, b2, b3, b4, b5⟩ := hg
        refine hS d _ q p0 h0 h13 (by omega) ⟨by omega, ?_, ?_, ?_, ?_⟩
        · rw [fuB_snoc]; omega
        · rw [wtB_snoc]; omega
        · rw [okB_snoc, a4, b4]; rfl
        rw [dpB_snoc]; omega
  · intro d p h0 h13 hn
    simp only [blockF]
    refine (take_rg _ p).bind fun _ q1 h1 => ?_
    refine (hS d [] q1 q1 h0 h13 (by omega) ⟨Nat.le_refl _, by simp only [fuB] <;> omega, by simp only [wtB] <;> omega, rfl, by simp only [dpB] <;> omega⟩).bind fun l q2 hg => ?_
    obtain ⟨b1, b2, b3, b4, b5⟩ := hg
    refine (take_rg _ q2).bind fun _ q3 h3 => ?_
    exact ⟨⟨by omega, by omega, by omega, b4, b5⟩, by omega, by omega, by omega⟩
  intro d p h0 h12 h4 hn
  have hx := rst_nx p
  have hpp := hr2 p
  have hw : IntKind.i64.wrap (d + 1) = d + 1 := i64_id (by omega) (by omega)
  simp only [stmtF, hw]
  cases c1 : (eqW p.w ⟨#[105, 102]⟩ || eqW p.w ⟨#[119, 104, 105, 108, 101]⟩) with
  | true =>
    have hk : 2 ≤ p.w.size ∧ p.w.size ≤ 5 := by
      rcases orB2 c1 with h | h <;> (have := eqW_size h; omega)
    refine (condOkP s n (nx s p) (by omega)).bind fun c q1 hc => ?_
    obtain ⟨⟨k1, k2, k3, k4⟩, k5⟩ := hc
    have hf := hr2 (nx s p)
    have df : decide (fuC c ≤ N) = true := decide_eq_true (by omega)
    refine (hB (d + 1) q1 (by omega) (by omega) (by omega)).bind fun b q2 hb => ?_
    obtain ⟨⟨b1, b2, b3, b4, b5⟩, b6, b7, b8⟩ := hb
    have hy := rst_nx q2
    cases c2 : (eqW p.w ⟨#[105, 102]⟩ && eqW q2.w ⟨#[101, 108, 115, 101]⟩) with
    | true =>
      refine (hB (d + 1) (nx s q2) (by omega) (by omega) (by omega)).bind fun e q3 he => ?_
      obtain ⟨⟨e1, e2, e3, e4, e5⟩, e6, e7, e8⟩ := he
      refine ⟨by omega, ?_, ?_, ?_, ?_⟩
      · simp only [fuS] <;> omega
      · simp only [wtS, wtL] <;> omega
      · first | (simp only [okS, nmL, fuL, k4, df, b4, e4]; rfl) | (simp [okS, nmL, nmC, fuL, fuC, okB, k4, df, b4, e4, d0]; done) | (simp [okS, nmL, nmC, fuL, fuC, okB, k4, b4, e4]; omega)
      simp only [dpS] <;> omega
    | false =>
      refine ⟨by omega, ?_, ?_, ?_, ?_⟩
      · simp only [fuS, fuB] <;> omega
      · simp only [wtS, wtL, wtB] <;> omega
      · first | (simp only [okS, nmL, fuL, okB, k4, df, b4]; rfl) | (simp [okS, nmL, nmC, fuL, fuC, okB, k4, df, b4, d0]; done) | (simp [okS, nmL, nmC, fuL, fuC, okB, k4, b4]; omega)
      simp only [dpS, dpB] <;> omega
  | false =>
    simp only
    cases c2 : (eqW p.w ⟨#[97, 115, 115, 101, 114, 116]⟩ || eqW p.w ⟨#[97, 115, 115, 117, 109, 101]⟩) with
    | true =>
      have hk : p.w.size = 6 := by
        rcases orB2 c2 with h | h <;> exact eqW_size h
      refine (condOkP s n (nx s p) (by omega)).bind fun c q1 hc => ?_
      obtain ⟨⟨k1, k2, k3, k4⟩, k5⟩ := hc
      have hf := hr2 (nx s p)
      have df : decide (fuC c ≤ N) = true := decide_eq_true (by omega)
      refine (take_rg _ q1).bind fun _ q2 h2 => ?_
      refine ⟨by omega, ?_, ?_, ?_, ?_⟩
      · simp only [fuS, fuB] <;> omega
      · simp only [wtS, wtL, wtB] <;> omega
      · first | (simp only [okS, nmL, fuL, okB, k4, df]; rfl) | (simp [okS, nmL, nmC, fuL, fuC, okB, k4, df, d0]; done) | (simp [okS, nmL, nmC, fuL, fuC, okB, k4]; omega)
      simp only [dpS, dpB] <;> omega
    | false =>
      simp only
      cases c3 : eqW p.w ⟨#[114, 101, 97, 100]⟩ with
      | true =>
        have hk := eqW_size c3
        refine (name_rg (nx s p)).bind fun m q1 hm => ?_
        refine (take_rg _ q1).bind fun _ q2 h2 => ?_
        refine ⟨by omega, ?_, ?_, ?_, ?_⟩
        · simp only [fuS, fuB] <;> omega
        · simp only [wtS, wtL, wtC, wtB] <;> omega
        · first | (simp only [okS, nmL, nmC, fuL, fuC, okB]; rfl) | (simp [okS, nmL, nmC, fuL, fuC, okB, d0]; done) | (simp [okS, nmL, nmC, fuL, fuC, okB]; omega)
        simp only [dpS, dpB] <;> omega
      | false =>
        simp only
        refine (name_rg p).bind fun m q1 hm => ?_
        have hz := rst_nx q1
        cases c4 : eqW q1.w ⟨#[91]⟩ with
        | true =>
          have hk := eqW_size c4
          refine (hE 1 (nx s q1) (by omega)).bind fun i q2 hi => ?_
          obtain ⟨i1, i2, i3, i4⟩ := hi
          refine (take_rg _ q2).bind fun _ q3 h3 => ?_
          refine (take_rg _ q3).bind fun _ q4 h4' => ?_
          refine (hE 1 q4 (by omega)).bind fun e q5 he => ?_
          obtain ⟨e1, e2, e3, e4⟩ := he
          refine (take_rg _ q5).bind fun _ q6 h6 => ?_
          have df : decide (fuE i + 1 + (fuE e + 1 + 0) ≤ N) = true := decide_eq_true (by have := hr2 (nx s q1); have := hr2 q4; omega)
          refine ⟨by omega, ?_, ?_, ?_, ?_⟩
          · simp only [fuS, fuB] <;> omega
          · simp only [wtS, wtL, wtC, wtB] <;> omega
          · first | (simp only [okS, nmL, nmC, fuL, fuC, okB, i4, e4]; rfl) | (simp [okS, nmL, nmC, fuL, fuC, okB, i4, e4]; done) | (simp [okS, nmL, nmC, fuL, fuC, okB, i4, e4]; exact decide_eq_true (by omega))
          simp only [dpS, dpB] <;> omega
        | false =>
          simp only
          refine (take_rg _ q1).bind fun _ q2 h2 => ?_
          have hv := rst_nx q2
          cases c5 : eqW q2.w ⟨#[99, 97, 108, 108]⟩ with
          | true =>
            have hk := eqW_size c5
            refine (name_rg (nx s q2)).bind fun f q3 hf => ?_
            refine (take_rg _ q3).bind fun _ q4 h4' => ?_
            refine (argOkP s n [] q4 q4 (by omega) ⟨Nat.le_refl _, by simp only [fuL] <;> omega, by simp only [wtL] <;> omega, rfl⟩).bind fun l q5 hl => ?_
            obtain ⟨l1, l2, l3, l4⟩ := hl
            refine (take_rg _ q5).bind fun _ q6 h6 => ?_
            have df : decide (fuL l ≤ N) = true := decide_eq_true (by have := hr2 q4; omega)
            refine ⟨by omega, ?_, ?_, ?_, ?_⟩
            · simp only [fuS, fuB] <;> omega
            · simp only [wtS, wtC, wtB] <;> omega
            · first | (simp only [okS, nmC, fuC, okB, l4, df]; rfl) | (simp [okS, nmL, nmC, fuL, fuC, okB, l4, df, d0]; done) | (simp [okS, nmL, nmC, fuL, fuC, okB, l4]; omega)
            simp only [dpS, dpB] <;> omega
          | false =>
            simp only
            refine (hE 1 q2 (by omega)).bind fun e q3 he => ?_
            obtain ⟨e1, e2, e3, e4⟩ := he
            refine (take_rg _ q3).bind fun _ q4 h4' => ?_
            have df : decide (fuE e + 1 + 0 ≤ N) = true := decide_eq_true (by have := hr2 q2; omega)
            refine ⟨by omega, ?_, ?_, ?_, ?_⟩
            · simp only [fuS, fuB] <;> omega
            · simp only [wtS, wtL, wtC, wtB] <;> omega
            · first | (simp only [okS, nmL, nmC, fuL, fuC, okB, e4]; rfl) | (simp [okS, nmL, nmC, fuL, fuC, okB, e4]; done) | (simp [okS, nmL, nmC, fuL, fuC, okB, e4]; first | omega | exact decide_eq_true (by omega))
            simp only [dpS, dpB] <;> omega
theorem smG (N : Nat) (s : ByteArray) (hs : s.size ≤ 4000) (hN : 2 * s.size ≤ N) : ∀ n, SmG N s n
  | 0 => ⟨fun d acc p p0 _ _ h => absurd h (by omega), fun d p _ _ h => absurd h (by omega), fun d p _ _ _ h => absurd h (by omega)⟩
  | n + 1 => smG_step N s hs hN n (smG N s hs hN n)
end Go.Abs
end
section
namespace Go.Abs
open Go Go.Proofs
attribute [local irreducible] aCall AWp Sub Spec
def BkE (G : Glob) (m : Nat) : Prop := ∀ (l : List Ex) (d : Int), fuL l < m → 0 ≤ d → (fuL l : Int) + 2 * d < 10000 → wtL l ≤ 1000000000 → Spec Tryz.prog G 130 [.d (.sl 4 (exs l)), .d (num d)] [] (.ret (.d (.sl 4 (exs l)))) []
def p130_5 : Plan := (.take 0 (.take 1 (.take 2 (.take 3 (.take 4 (.load 5 (.take 6 (.take 7 (.take 8 (.take 9 (.load 10 (.take 11 (.take 12 (.take 13 (.take 14 (.load 15 (.take 16 (.take 17 (.take 18 (.take 19 (.load 20 (.take 21 (.take 22 (.one 23 (.one 24 (.one 25 (.one 26 (.take 27 .done))))))))))))))))))))))))))))
theorem exprsBack_step (G : Glob) (m : Nat) (ih : BkE G m) : BkE G (m + 1) := by
  intro l d hf hd0 hd5 hw
  have hlen := wtL_len l
  have hbig : l.length ≤ 1073741824 := by omega
  refine spec_of_awp2 TT_ok (N := 45) Tryz.func130 rfl (by rfl) (Nat.le_refl _) rfl ?_
  refine awp_seq ?_; refine rgn fun pan K hp hK => ?_; refine hK _ ?_; clear hK hp K pan; refine awp_norm [0, 1] rfl rfl ?_; refine awp_seq ?_; refine rgn fun pan K hp hK => ?_; refine hK _ ?_; clear hK hp K pan; refine awp_norm [0, 1, 5] rfl rfl ?_; refine awp_seq ?_; refine awp_seq ?_; refine rgn fun pan K hp hK => ?_; refine hK _ ?_; clear hK hp K pan; refine awp_norm [0, 1, 5, 6] rfl rfl ?_
  refine awp_acc 5 143 4 rfl rfl rfl ?_
  refine awp_norm [0, 1, 5, 6] rfl rfl ?_; refine awp_block ?_
  refine awp_loop (fun k Y => ∃ (d1 e1 : List Ex), k = e1.length ∧ l = d1 ++ e1 ∧ Y = ⟨[(0, .d (.sl 4 (exs l))), (1, .d (num d)), (5, .acc 0), (6, .d (num d1.length))], [.acc 143 4 (exs d1)]⟩) (l.length) (⟨[], l, rfl, rfl, rfl⟩) ?_
  rintro k Y ⟨d1, e1, rfl, hl1, rfl⟩
  have hll1 : (exs l).length = d1.length + e1.length := by rw [ex_len, hl1, List.length_append]
  have hdl1 : d1.length + e1.length ≤ 1073741824 := by rw [hl1, List.length_append] at hbig; exact hbig
  refine awp_seq ?_; refine awp_seq ?_; refine rgn fun pan K hp hK => ?_
  refine onB_intro (fun h1 => ?_) (fun h1 => ?_)
  · have h1' := of_decide_eq_true h1
    rw [hll1] at h1'
    cases e1 with
    | nil => simp only [List.length_nil] at h1'; omega
    | cons x e1b =>
    obtain ⟨p1, n1, m1, l1⟩ := x
    subst hl1
    simp only [List.length_cons] at hdl1
    have hfx : fuL l1 + 2 ≤ m ∧ (fuL l1 : Int) + 2 * (d + 1) < 10000 := by rw [fuL_app] at hf hd5; simp only [fuL, fuE] at hf hd5; omega
    have hwx : wtL l1 ≤ 1000000000 := by rw [wtL_app] at hw; simp only [wtL, wtE] at hw; omega
    refine hK _ ?_; clear hK hp K pan; refine awp_norm [0, 1, 5, 6, 14] rfl rfl ?_
    refine awp_cond2 rfl (onB_intro (fun h2 => ?_) (fun h2 => ?_))
    · refine awp_skip ?_; refine awp_seq ?_; refine awp_block ?_
      refine (awp_draw TT_ok mixed p130_5 [26] (fun _ => false) (by kernel_rfl) fun pan K hp hK => ?_)
      refine And.intro ((by omega)) (Exists.intro _ (And.intro (exs_at rfl) ?_))
      refine And.intro ((by omega)) (Exists.intro _ (And.intro (exs_at rfl) ?_))
      refine And.intro ((by omega)) (Exists.intro _ (And.intro (exs_at rfl) ?_))
      refine And.intro ((by omega)) (Exists.intro _ (And.intro (exs_at rfl) ?_))
      show aCall _ _ _ _ _ _ _
      have ih1 := ih l1 (IntKind.i64.wrap (d + 1)) (by omega) (by rw [wrapId (by omega) (by omega)]; omega) (by rw [wrapId (by omega) (by omega)]; omega) hwx
      refine aCall_ret (L := []) rfl rfl rfl ih1 rfl rfl rfl rfl ?_
      refine And.intro (And.intro ((by simp only [ex_len, chunk_length]; omega)) ((by simp only [ex_len, chunk_length, maxLen]; omega))) ?_
      refine hK _ ?_; clear hK hp K pan; refine awp_norm [0, 1, 5, 6] rfl rfl ?_; refine rgn fun pan K hp hK => ?_; refine hK _ ?_; clear hK hp K pan
      exact ⟨_, Nat.lt_succ_self _, _, sub_pick (L := [0]) (slots := [0, 1, 5, 6]) rfl rfl rfl rfl rfl, d1 ++ [.mk p1 n1 m1 l1], e1b, rfl, by simp, by rw [← exs_snoc, List.length_append, wrapId (by omega) (by omega)]; rfl⟩
    have := of_decide_eq_false h2
    rw [fuL_app] at hd5
    omega
  have h1' := of_decide_eq_false h1
  rw [hll1] at h1'
  obtain rfl : e1 = [] := List.eq_nil_of_length_eq_zero (by omega)
  rw [List.append_nil] at hl1
  subst hl1
  refine hK _ ?_; clear hK hp K pan; refine awp_norm [0, 1, 5, 6, 14] rfl rfl ?_; refine awp_cond rfl ?_
  refine awp_exit ?_
  refine awp_norm [5] rfl rfl ?_; refine awp_seq ?_; refine rgn fun pan K hp hK => ?_; refine hK _ ?_; clear hK hp K pan; refine awp_norm [4] rfl rfl ?_; refine awp_ret ?_
  exact ⟨_, [], _, [.d (.sl 4 (exs l))], rfl, rfl, rfl, rfl, rfl, PWs.refl _, rfl⟩
theorem exprsBack_spec (G : Glob) : ∀ m, BkE G m
  | 0 => fun l d h => absurd h (by omega)
  | m + 1 => exprsBack_step G m (exprsBack_spec G m)
theorem exprsBack_all (G : Glob) (l : List Ex) (hf : fuL l ≤ 9900) (hw : wtL l ≤ 1000000000) : Spec Tryz.prog G 130 [.d (.sl 4 (exs l)), .d (num 0)] [] (.ret (.d (.sl 4 (exs l)))) [] := exprsBack_spec G (fuL l + 1) l 0 (Nat.lt_succ_self _) (Int.le_refl _) (by omega) hw
def p73_1 : Plan := (.take 0 (.load 1 (.take 2 (.load 3 (.take 4 (.load 5 (.take 6 (.load 7 (.one 8 (.one 9 (.one 10 .done)))))))))))
theorem exprBack_spec (G : Glob) (e : Ex) (hf : fuE e ≤ 9900) (hw : wtE e ≤ 1000000000) : Spec Tryz.prog G 73 [.d (.agg e.cs)] [] (.ret (.d (.agg e.cs))) [] := by
  obtain ⟨op, n, nm, l⟩ := e
  refine spec_of_awp2 TT_ok (N := 13) Tryz.func73 rfl (by rfl) (Nat.le_refl _) rfl ?_
  refine awp_seq ?_; refine rgn fun pan K hp hK => ?_; refine hK _ ?_; clear hK hp K pan; refine awp_norm [1, 2] rfl rfl ?_; refine awp_seq ?_
  refine (awp_draw TT_ok mixed p73_1 [10] (fun i => Nat.beq i 0) (by kernel_rfl) fun pan K hp hK => ?_)
  show aCall _ _ _ _ _ _ _
  refine aCall_ret (L := []) rfl rfl rfl (exprsBack_all G l (by simp only [fuE] at hf; omega) (by simp only [wtE] at hw; omega)) rfl rfl rfl rfl ?_
  refine hK _ ?_; clear hK hp K pan; refine awp_norm [2] rfl rfl ?_; refine awp_ret ?_
  exact ⟨_, [], _, [encE (.mk op n nm l)], rfl, rfl, rfl, rfl, rfl, PWs.refl _, rfl⟩
theorem fuR_app : ∀ (a b : List Ts), fuR b ≤ fuR (a ++ b)
  | [], b => Nat.le_refl _
  | x :: a, b => by have := fuR_app a b; simp only [List.cons_append, fuR]; omega
def p131_5 : Plan := (.take 0 (.take 1 (.take 2 (.take 3 (.take 4 (.load 5 (.take 7 (.take 8 (.take 9 (.take 10 (.load 11 (.take 12 (.take 13 (.take 14 (.take 15 (.load 16 (.one 6 (.one 17 (.one 18 (.one 19 (.one 20 (.take 21 .done))))))))))))))))))))))
theorem testsBack_spec (G : Glob) (l : List Ts) (hf : fuR l ≤ 9900) (hw : wtR l ≤ 1000000000) : Spec Tryz.prog G 131 [.d (.sl 9 (tss l))] [] (.ret (.d (.sl 9 (tss l)))) [] := by
  have hlen := wtR_len l
  have hbig : l.length ≤ 1073741824 := by omega
  refine spec_of_awp2 TT_ok (N := 33) Tryz.func131 rfl (by rfl) (Nat.le_refl _) rfl ?_
  refine awp_seq ?_; refine rgn fun pan K hp hK => ?_; refine hK _ ?_; clear hK hp K pan; refine awp_norm [0] rfl rfl ?_; refine awp_seq ?_; refine rgn fun pan K hp hK => ?_; refine hK _ ?_; clear hK hp K pan; refine awp_norm [0, 3] rfl rfl ?_; refine awp_seq ?_; refine awp_seq ?_; refine rgn fun pan K hp hK => ?_; refine hK _ ?_; clear hK hp K pan; refine awp_norm [0, 3, 4] rfl rfl ?_
  refine awp_acc 3 288 9 rfl rfl rfl ?_
  refine awp_norm [0, 3, 4] rfl rfl ?_; refine awp_block ?_
  refine awp_loop (fun k Y => ∃ (d1 e1 : List Ts), k = e1.length ∧ l = d1 ++ e1 ∧ Y = ⟨[(0, .d (.sl 9 (tss l))), (3, .acc 0), (4, .d (num d1.length))], [.acc 288 9 (tss d1)]⟩) (l.length) (⟨[], l, rfl, rfl, rfl⟩) ?_
  rintro k Y ⟨d1, e1, rfl, hl1, rfl⟩
  have hll1 : (tss l).length = d1.length + e1.length := by rw [tss_len3, hl1, List.length_append]
  have hdl1 : d1.length + e1.length ≤ 1073741824 := by rw [hl1, List.length_append] at hbig; exact hbig
  refine awp_seq ?_; refine awp_seq ?_; refine rgn fun pan K hp hK => ?_; refine hK _ ?_; clear hK hp K pan; refine awp_norm [0, 3, 4, 8] rfl rfl ?_
  refine awp_cond2 rfl (onB_intro (fun h1 => ?_) (fun h1 => ?_))
  · have h1' := of_decide_eq_true h1
    rw [hll1] at h1'
    cases e1 with
    | nil => simp only [List.length_nil] at h1'; omega
    | cons x e1b =>
    obtain ⟨⟨p1, n1, m1, l1⟩, rel, ⟨p2, n2, m2, l2⟩⟩ := x
    subst hl1
    simp only [List.length_cons] at hdl1
    have hx := wtR_app d1 (⟨.mk p1 n1 m1 l1, rel, .mk p2 n2 m2 l2⟩ :: e1b)
    rw [wtR, wtT] at hx
    simp only at hx
    have hy := fuR_app d1 (⟨.mk p1 n1 m1 l1, rel, .mk p2 n2 m2 l2⟩ :: e1b)
    rw [fuR, fuT] at hy
    simp only at hy
    refine awp_skip ?_; refine awp_seq ?_; refine awp_block ?_
    refine (awp_draw TT_ok mixed p131_5 [20] (fun _ => false) (by kernel_rfl) fun pan K hp hK => ?_)
    refine And.intro ((by omega)) (Exists.intro _ (And.intro (tss_at rfl) ?_))
    refine And.intro ((by omega)) (Exists.intro _ (And.intro (tss_at rfl) ?_))
    refine And.intro ((by omega)) (Exists.intro _ (And.intro (tss_at rfl) ?_))
    show aCall _ _ _ _ _ _ _
    refine aCall_ret (L := []) rfl rfl rfl (exprBack_spec G (.mk p1 n1 m1 l1) (by omega) (by omega)) rfl rfl rfl rfl ?_
    show aCall _ _ _ _ _ _ _
    refine aCall_ret (L := []) rfl rfl rfl (exprBack_spec G (.mk p2 n2 m2 l2) (by omega) (by omega)) rfl rfl rfl rfl ?_
    refine And.intro (And.intro ((by simp only [tss_len3, chunk_length]; omega)) ((by simp only [tss_len3, chunk_length, maxLen]; omega))) ?_
    refine hK _ ?_; clear hK hp K pan; refine awp_norm [0, 3, 4] rfl rfl ?_; refine rgn fun pan K hp hK => ?_; refine hK _ ?_; clear hK hp K pan
    exact ⟨_, Nat.lt_succ_self _, _, sub_pick (L := [0]) (slots := [0, 3, 4]) rfl rfl rfl rfl rfl, d1 ++ [⟨.mk p1 n1 m1 l1, rel, .mk p2 n2 m2 l2⟩], e1b, rfl, by simp, by rw [← tss_snoc, List.length_append, wrapId (by omega) (by omega)]; rfl⟩
  have h1' := of_decide_eq_false h1
  rw [hll1] at h1'
  obtain rfl : e1 = [] := List.eq_nil_of_length_eq_zero (by omega)
  rw [List.append_nil] at hl1
  subst hl1
  refine awp_exit ?_
  refine awp_norm [3] rfl rfl ?_; refine awp_seq ?_; refine rgn fun pan K hp hK => ?_; refine hK _ ?_; clear hK hp K pan; refine awp_norm [2] rfl rfl ?_; refine awp_ret ?_
  exact ⟨_, [], _, [.d (.sl 9 (tss l))], rfl, rfl, rfl, rfl, rfl, PWs.refl _, rfl⟩
def p71_5 : Plan := (.take 0 (.take 1 (.take 2 (.take 3 (.take 4 (.load 5 (.take 6 (.take 7 (.take 8 (.take 9 (.load 10 (.one 11 (.one 12 (.one 13 (.take 14 .done)))))))))))))))
theorem arraysBack_spec (G : Glob) (l : List Ar) (hbig : l.length ≤ 1073741824) : Spec Tryz.prog G 71 [.d (.sl 2 (ars l))] [] (.ret (.d (.sl 2 (ars l)))) [] := by
  refine spec_of_awp2 TT_ok (N := 26) Tryz.func71 rfl (by rfl) (Nat.le_refl _) rfl ?_
  refine awp_seq ?_; refine rgn fun pan K hp hK => ?_; refine hK _ ?_; clear hK hp K pan; refine awp_norm [0] rfl rfl ?_; refine awp_seq ?_; refine rgn fun pan K hp hK => ?_; refine hK _ ?_; clear hK hp K pan; refine awp_norm [0, 3] rfl rfl ?_; refine awp_seq ?_; refine awp_seq ?_; refine rgn fun pan K hp hK => ?_; refine hK _ ?_; clear hK hp K pan; refine awp_norm [0, 3, 4] rfl rfl ?_
  refine awp_acc 3 99 2 rfl rfl rfl ?_
  refine awp_norm [0, 3, 4] rfl rfl ?_; refine awp_block ?_
  refine awp_loop (fun k Y => ∃ (d1 e1 : List Ar), k = e1.length ∧ l = d1 ++ e1 ∧ Y = ⟨[(0, .d (.sl 2 (ars l))), (3, .acc 0), (4, .d (num d1.length))], [.acc 99 2 (ars d1)]⟩) (l.length) (⟨[], l, rfl, rfl, rfl⟩) ?_
  rintro k Y ⟨d1, e1, rfl, hl1, rfl⟩
  have hll1 : (ars l).length = d1.length + e1.length := by rw [ars, List.length_map, hl1, List.length_append]
  have hdl1 : d1.length + e1.length ≤ 1073741824 := by rw [hl1, List.length_append] at hbig; exact hbig
  refine awp_seq ?_; refine awp_seq ?_; refine rgn fun pan K hp hK => ?_; refine hK _ ?_; clear hK hp K pan; refine awp_norm [0, 3, 4, 8] rfl rfl ?_
  refine awp_cond2 rfl (onB_intro (fun h1 => ?_) (fun h1 => ?_))
  · have h1' := of_decide_eq_true h1
    rw [hll1] at h1'
    cases e1 with
    | nil => simp only [List.length_nil] at h1'; omega
    | cons x e1b =>
    obtain ⟨nm, sz⟩ := x
    subst hl1
    simp only [List.length_cons] at hdl1
    refine awp_skip ?_; refine awp_seq ?_; refine awp_block ?_
    refine (awp_draw TT_ok mixed p71_5 [13] (fun _ => false) (by kernel_rfl) fun pan K hp hK => ?_)
    refine And.intro ((by omega)) (Exists.intro _ (And.intro (ars_at rfl) ?_))
    refine And.intro ((by omega)) (Exists.intro _ (And.intro (ars_at rfl) ?_))
    refine And.intro (And.intro ((by simp only [ars, List.length_map, chunk_length]; omega)) ((by simp only [ars, List.length_map, chunk_length, maxLen]; omega))) ?_
    refine hK _ ?_; clear hK hp K pan; refine awp_norm [0, 3, 4] rfl rfl ?_; refine rgn fun pan K hp hK => ?_; refine hK _ ?_; clear hK hp K pan
    exact ⟨_, Nat.lt_succ_self _, _, sub_pick (L := [0]) (slots := [0, 3, 4]) rfl rfl rfl rfl rfl, d1 ++ [⟨nm, sz⟩], e1b, rfl, by simp, by rw [← ars_snoc, List.length_append, wrapId (by omega) (by omega)]; rfl⟩
  have h1' := of_decide_eq_false h1
  rw [hll1] at h1'
  obtain rfl : e1 = [] := List.eq_nil_of_length_eq_zero (by omega)
  rw [List.append_nil] at hl1
  subst hl1
  refine awp_exit ?_
  refine awp_norm [3] rfl rfl ?_; refine awp_seq ?_; refine rgn fun pan K hp hK => ?_; refine hK _ ?_; clear hK hp K pan; refine awp_norm [2] rfl rfl ?_; refine awp_ret ?_
  exact ⟨_, [], _, [.d (.sl 2 (ars l))], rfl, rfl, rfl, rfl, rfl, PWs.refl _, rfl⟩
theorem fuC_app : ∀ (a b : List (List Ts)), fuC b ≤ fuC (a ++ b)
  | [], b => Nat.le_refl _
  | x :: a, b => by have := fuC_app a b; simp only [List.cons_append, fuC]; omega
theorem dpB_app : ∀ (a b : List Sm), dpB b ≤ dpB (a ++ b)
  | [], b => Int.le_refl _
  | x :: a, b => by have := dpB_app a b; simp only [List.cons_append, dpB]; omega
theorem dpB_nn : ∀ l : List Sm, 0 ≤ dpB l
  | [] => by simp [dpB]
  | x :: l => by have := dpB_nn l; simp only [dpB]; omega
def BkS (G : Glob) (m : Nat) : Prop := ∀ (l : List Sm) (d : Int), fuB l < m → 0 ≤ d → dpB l + d < 50 → okB 9900 l = true → wtB l ≤ 1000000000 → Spec Tryz.prog G 72 [.d (.sl 7 (sms l)), .d (num d)] [] (.ret (.d (.sl 7 (sms l)))) []
theorem okB_app (n : Nat) : ∀ (a b : List Sm), okB n (a ++ b) = true → okB n b = true
  | [], b, h => h
  | x :: a, b, h => by
    simp only [List.cons_append, okB, Bool.and_eq_true] at h
    exact okB_app n a b h.2
set_option maxHeartbeats 1000000
def p72_5 : Plan := (.take 0 (.take 1 (.take 2 (.take 3 (.load 4 (.take 5 (.take 6 (.take 7 (.take 8 (.load 9 (.take 10 (.take 11 (.take 12 (.take 13 (.load 14 (.take 15 (.take 16 (.take 17 (.take 18 (.load 19 (.take 21 (.take 22 (.take 23 (.take 24 (.load 25 (.take 26 (.take 27 (.take 29 (.take 30 (.take 31 (.take 32 (.load 33 (.take 34 (.take 35 (.alt 20 (.alt 28 (.alt 36 (.alt 37 (.one 38 (.one 39 .done)) (.alt 38 (.one 37 (.one 39 .done)) .done)) (.alt 38 (.one 36 (.one 37 (.one 39 .done))) .done)) (.alt 38 (.one 28 (.one 36 (.one 37 (.one 39 .done)))) .done)) (.alt 38 (.one 20 (.one 28 (.one 36 (.one 37 (.one 39 .done))))) .done))))))))))))))))))))))))))))))))))))
def p72_9 : Plan := (.take 0 (.load 1 (.take 2 (.take 3 (.take 4 (.take 5 (.load 6 (.take 7 (.take 8 (.load 9 (.one 10 (.one 11 (.one 12 (.take 13 (.one 14 .done)))))))))))))))
theorem stmtsBack_step (G : Glob) (m : Nat) (ih : BkS G m) : BkS G (m + 1) := by
  intro l d hf hd0 hdp hok hw
  have hlen := wtB_len l
  have hbig : l.length ≤ 1073741824 := by omega
  refine spec_of_awp2 TT_ok (N := 86) Tryz.func72 rfl (by rfl) (Nat.le_refl _) rfl ?_
  refine awp_seq ?_; refine rgn fun pan K hp hK => ?_; refine hK _ ?_; clear hK hp K pan; refine awp_norm [0, 1] rfl rfl ?_; refine awp_seq ?_; refine rgn fun pan K hp hK => ?_; refine hK _ ?_; clear hK hp K pan; refine awp_norm [0, 1, 5] rfl rfl ?_; refine awp_seq ?_; refine awp_seq ?_; refine rgn fun pan K hp hK => ?_; refine hK _ ?_; clear hK hp K pan; refine awp_norm [0, 1, 5, 6] rfl rfl ?_
  refine awp_acc 5 228 7 rfl rfl rfl ?_
  refine awp_norm [0, 1, 5, 6] rfl rfl ?_; refine awp_block ?_
  refine awp_loop (fun k Y => ∃ (d1 e1 : List Sm), k = e1.length ∧ l = d1 ++ e1 ∧ Y = ⟨[(0, .d (.sl 7 (sms l))), (1, .d (num d)), (5, .acc 0), (6, .d (num d1.length))], [.acc 228 7 (sms d1)]⟩) (l.length) (⟨[], l, rfl, rfl, rfl⟩) ?_
  rintro k Y ⟨d1, e1, rfl, hl1, rfl⟩
  have hll1 : (sms l).length = d1.length + e1.length := by rw [sms_len2, hl1, List.length_append]
  have hdl1 : d1.length + e1.length ≤ 1073741824 := by rw [hl1, List.length_append] at hbig; exact hbig
  refine awp_seq ?_; refine awp_seq ?_; refine rgn fun pan K hp hK => ?_
  refine onB_intro (fun h1 => ?_) (fun h1 => ?_)
  · have h1' := of_decide_eq_true h1
    rw [hll1] at h1'
    cases e1 with
    | nil => simp only [List.length_nil] at h1'; omega
    | cons x e1b =>
    obtain ⟨kind, name, proc, args, cond, body, els⟩ := x
    subst hl1
    simp only [List.length_cons] at hdl1
    have hfx := fuB_app d1 (.mk kind name proc args cond body els :: e1b)
    have hwx := wtB_app d1 (.mk kind name proc args cond body els :: e1b)
    have hdx := dpB_app d1 (.mk kind name proc args cond body els :: e1b)
    have hok1 := okB_app 9900 d1 _ hok
    simp only [fuB, fuS, wtB, wtS, dpB, dpS] at hfx hwx hdx
    simp only [okB, okS, Bool.and_eq_true, decide_eq_true_eq] at hok1
    obtain ⟨⟨⟨⟨⟨_, hfa⟩, _, hfc⟩, hob⟩, hoe⟩, _⟩ := hok1
    have hnb := dpB_nn body
    have hne := dpB_nn els
    have hfb := fuB_ge body
    have hfe := fuB_ge els
    have hcl := wtC_len cond
    have hbig2 : cond.length ≤ 1073741824 := by omega
    refine hK _ ?_; clear hK hp K pan; refine awp_norm [0, 1, 5, 6, 16] rfl rfl ?_
    refine awp_cond2 rfl (onB_intro (fun h2 => ?_) (fun h2 => ?_))
    · refine awp_skip ?_; refine awp_seq ?_; refine awp_block ?_
      refine awp_cut (fun Z => Z = ⟨[(0, .d (.sl 7 (sms (d1 ++ .mk kind name proc args cond body els :: e1b)))), (1, .d (num d)), (5, .acc 0), (6, .d (num d1.length)), (7, .box 1 0)], [.acc 228 7 (sms d1), .box 228 [.d (str kind), .d (str name), .d (str proc), .d (.sl 4 (exs args)), .d (.s (.slice none 0 0)), .d (.sl 7 (sms body)), .d (.sl 7 (sms els))]]⟩) ?_ ?_
      · refine (awp_draw TT_ok mixed p72_5 [39] (fun _ => false) (by kernel_rfl) fun pan K hp hK => ?_)
        refine And.intro ((by omega)) (Exists.intro _ (And.intro (sms_at2 rfl) ?_))
        refine And.intro ((by omega)) (Exists.intro _ (And.intro (sms_at2 rfl) ?_))
        refine And.intro ((by omega)) (Exists.intro _ (And.intro (sms_at2 rfl) ?_))
        refine And.intro ((by omega)) (Exists.intro _ (And.intro (sms_at2 rfl) ?_))
        refine And.intro ((by omega)) (Exists.intro _ (And.intro (sms_at2 rfl) ?_))
        refine And.intro ((by omega)) (Exists.intro _ (And.intro (sms_at2 rfl) ?_))
        refine And.intro ?_ ?_
        · show aCall _ _ _ _ _ _ _
          refine aCall_ret (L := []) rfl rfl rfl (exprsBack_all G args (by omega) (by omega)) rfl rfl rfl rfl ?_
          refine And.intro ?_ ?_
          · show aCall _ _ _ _ _ _ _
            refine aCall_ret (L := []) rfl rfl rfl (ih body (IntKind.i64.wrap (d + 1)) (by omega) (by rw [wrapId (by omega) (by omega)]; omega) (by rw [wrapId (by omega) (by omega)]; omega) hob (by omega)) rfl rfl rfl rfl ?_
            refine And.intro ?_ ?_
            · show aCall _ _ _ _ _ _ _
              refine aCall_ret (L := []) rfl rfl rfl (ih els (IntKind.i64.wrap (d + 1)) (by omega) (by rw [wrapId (by omega) (by omega)]; omega) (by rw [wrapId (by omega) (by omega)]; omega) hoe (by omega)) rfl rfl rfl rfl ?_
              refine And.intro ?_ ?_
              · refine hK _ ?_; clear hK hp K pan
                exact ⟨_, sub_norm (slots := [0, 1, 5, 6, 7]) rfl rfl, rfl⟩
              refine And.intro ?_ ?_
              · refine hK _ ?_; clear hK hp K pan
                exact ⟨_, sub_norm (slots := [0, 1, 5, 6, 7]) rfl rfl, rfl⟩
              trivial
            refine And.intro ?_ ?_
            · show aCall _ _ _ _ _ _ _
              refine aCall_ret (L := []) rfl rfl rfl (ih els (IntKind.i64.wrap (d + 1)) (by omega) (by rw [wrapId (by omega) (by omega)]; omega) (by rw [wrapId (by omega) (by omega)]; omega) hoe (by omega)) rfl rfl rfl rfl ?_
              refine hK _ ?_; clear hK hp K pan
              exact ⟨_, sub_norm (slots := [0, 1, 5, 6, 7]) rfl rfl, rfl⟩
            trivial
          refine And.intro ?_ ?_
          · show aCall _ _ _ _ _ _ _
            refine aCall_ret (L := []) rfl rfl rfl (ih body (IntKind.i64.wrap (d + 1)) (by omega) (by rw [wrapId (by omega) (by omega)]; omega) (by rw [wrapId (by omega) (by omega)]; omega) hob (by omega)) rfl rfl rfl rfl ?_
            show aCall _ _ _ _ _ _ _
            refine aCall_ret (L := []) rfl rfl rfl (ih els (IntKind.i64.wrap (d + 1)) (by omega) (by rw [wrapId (by omega) (by omega)]; omega) (by rw [wrapId (by omega) (by omega)]; omega) hoe (by omega)) rfl rfl rfl rfl ?_
            refine hK _ ?_; clear hK hp K pan
            exact ⟨_, sub_norm (slots := [0, 1, 5, 6, 7]) rfl rfl, rfl⟩
          trivial
        refine And.intro ?_ ?_
        · show aCall _ _ _ _ _ _ _
          refine aCall_ret (L := []) rfl rfl rfl (exprsBack_all G args (by omega) (by omega)) rfl rfl rfl rfl ?_
          show aCall _ _ _ _ _ _ _
          refine aCall_ret (L := []) rfl rfl rfl (ih body (IntKind.i64.wrap (d + 1)) (by omega) (by rw [wrapId (by omega) (by omega)]; omega) (by rw [wrapId (by omega) (by omega)]; omega) hob (by omega)) rfl rfl rfl rfl ?_
          show aCall _ _ _ _ _ _ _
          refine aCall_ret (L := []) rfl rfl rfl (ih els (IntKind.i64.wrap (d + 1)) (by omega) (by rw [wrapId (by omega) (by omega)]; omega) (by rw [wrapId (by omega) (by omega)]; omega) hoe (by omega)) rfl rfl rfl rfl ?_
          refine hK _ ?_; clear hK hp K pan
          exact ⟨_, sub_norm (slots := [0, 1, 5, 6, 7]) rfl rfl, rfl⟩
        trivial
      rintro Z rfl
      refine awp_accCell 1 4 60 1 rfl rfl rfl rfl ?_
      refine awp_norm [0, 1, 5, 6, 7] rfl rfl ?_; refine awp_seq ?_; refine awp_seq ?_; refine rgn fun pan K hp hK => ?_; refine hK _ ?_; clear hK hp K pan; refine awp_norm [0, 1, 5, 6, 7, 8] rfl rfl ?_; refine awp_block ?_
      refine awp_loop (fun k Y => ∃ (d2 e2 : List (List Ts)), k = e2.length ∧ cond = d2 ++ e2 ∧ Y = ⟨[(0, .d (.sl 7 (sms (d1 ++ .mk kind name proc args cond body els :: e1b)))), (1, .d (num d)), (5, .acc 0), (6, .d (num d1.length)), (7, .box 1 0), (8, .d (num d2.length))], [.acc 228 7 (sms d1), .box 228 [.d (str kind), .d (str name), .d (str proc), .d (.sl 4 (exs args)), .acc 2, .d (.sl 7 (sms body)), .d (.sl 7 (sms els))], .acc 60 1 (cnd d2)]⟩) (cond.length) (⟨[], cond, rfl, rfl, rfl⟩) ?_
      rintro k Y ⟨d2, e2, rfl, hl2, rfl⟩
      have hll2 : (cnd cond).length = d2.length + e2.length := by rw [cnd_len3, hl2, List.length_append]
      have hdl2 : d2.length + e2.length ≤ 1073741824 := by rw [hl2, List.length_append] at hbig2; exact hbig2
      refine awp_seq ?_; refine awp_seq ?_; refine rgn fun pan K hp hK => ?_
      refine And.intro ((by omega)) (Exists.intro _ (And.intro (sms_at2 rfl) ?_))
      refine hK _ ?_; clear hK hp K pan; refine awp_norm [0, 1, 5, 6, 7, 8, 64] rfl rfl ?_
      refine awp_cond2 rfl (onB_intro (fun h3 => ?_) (fun h3 => ?_))
      · have h3' := of_decide_eq_true h3
        rw [hll2] at h3'
        cases e2 with
        | nil => simp only [List.length_nil] at h3'; omega
        | cons x e2b =>
        subst hl2
        simp only [List.length_cons] at hdl2
        have hcx := wtC_app d2 (x :: e2b)
        simp only [wtC] at hcx
        have hcy := fuC_app d2 (x :: e2b)
        simp only [fuC] at hcy
        refine awp_skip ?_; refine awp_seq ?_; refine awp_block ?_
        refine (awp_draw TT_ok mixed p72_9 [12, 14] (fun i => Nat.beq i 1) (by kernel_rfl) fun pan K hp hK => ?_)
        refine And.intro ((by omega)) (Exists.intro _ (And.intro (sms_at2 rfl) ?_))
        refine And.intro (by omega) (Exists.intro _ (And.intro (cnd_at rfl) ?_))
        show aCall _ _ _ _ _ _ _
        refine aCall_ret (L := []) rfl rfl rfl (testsBack_spec G x (by omega) (by omega)) rfl rfl rfl rfl ?_
        refine And.intro (And.intro ((by simp only [cnd_len3, chunk_length]; omega)) ((by simp only [cnd_len3, chunk_length, maxLen]; omega))) ?_
        refine hK _ ?_; clear hK hp K pan; refine awp_norm [0, 1, 5, 6, 7, 8] rfl rfl ?_; refine rgn fun pan K hp hK => ?_; refine hK _ ?_; clear hK hp K pan
        exact ⟨_, Nat.lt_succ_self _, _, sub_pick (L := [0, 1, 2]) (slots := [0, 1, 5, 6, 7, 8]) rfl rfl rfl rfl rfl, d2 ++ [x], e2b, rfl, by simp, by rw [← cnd_snoc, List.length_append, wrapId (by omega) (by omega)]; rfl⟩
      have h3' := of_decide_eq_false h3
      rw [hll2] at h3'
      obtain rfl : e2 = [] := List.eq_nil_of_length_eq_zero (by omega)
      rw [List.append_nil] at hl2
      subst hl2
      refine awp_exit ?_
      refine awp_norm [0, 1, 5, 6, 7] rfl rfl ?_; refine rgn fun pan K hp hK => ?_
      refine And.intro (And.intro ((by simp only [sms_len2, chunk_length]; omega)) ((by simp only [sms_len2, chunk_length, maxLen]; omega))) ?_
      refine hK _ ?_; clear hK hp K pan; refine awp_norm [0, 1, 5, 6] rfl rfl ?_; refine rgn fun pan K hp hK => ?_; refine hK _ ?_; clear hK hp K pan
      exact ⟨_, Nat.lt_succ_self _, _, sub_pick (L := [0]) (slots := [0, 1, 5, 6]) rfl rfl rfl rfl rfl, d1 ++ [.mk kind name proc args cond body els], e1b, rfl, by simp, by rw [← sms_snoc2, List.length_append, wrapId (by omega) (by omega)]; rfl⟩
    have := of_decide_eq_false h2
    omega
  have h1' := of_decide_eq_false h1
  rw [hll1] at h1'
  obtain rfl : e1 = [] := List.eq_nil_of_length_eq_zero (by omega)
  rw [List.append_nil] at hl1
  subst hl1
  refine hK _ ?_; clear hK hp K pan; refine awp_norm [0, 1, 5, 6, 16] rfl rfl ?_; refine awp_cond rfl ?_
  refine awp_exit ?_
  refine awp_norm [5] rfl rfl ?_; refine awp_seq ?_; refine rgn fun pan K hp hK => ?_; refine hK _ ?_; clear hK hp K pan; refine awp_norm [4] rfl rfl ?_; refine awp_ret ?_
  exact ⟨_, [], _, [.d (.sl 7 (sms l))], rfl, rfl, rfl, rfl, rfl, PWs.refl _, rfl⟩
theorem stmtsBack_spec (G : Glob) : ∀ m, BkS G m
  | 0 => fun l d h => absurd h (by omega)
  | m + 1 => stmtsBack_step G m (stmtsBack_spec G m)
theorem stmtsBack_all (G : Glob) (l : List Sm) (hd : dpB l < 50) (hok : okB 9900 l = true) (hw : wtB l ≤ 1000000000) : Spec Tryz.prog G 72 [.d (.sl 7 (sms l)), .d (num 0)] [] (.ret (.d (.sl 7 (sms l)))) [] := stmtsBack_spec G (fuB l + 1) l 0 (Nat.lt_succ_self _) (Int.le_refl _) (by omega) hok hw
end Go.Abs
end
section
namespace Go.Abs
open Go Go.Proofs
attribute [local irreducible] aCall AWp Sub Spec
/-- Small enough for Back. -/
structure BkOk (p : Pg) : Prop where
  wt : wtPg p ≤ 1000000000
  md : dpB p.main < 50
  mo : okB 9900 p.main = true
  pc : ∀ f, f ∈ p.procs → dpB f.body < 50 ∧ okB 9900 f.body = true ∧ fuE f.ret ≤ 9900
set_option maxHeartbeats 1000000
def p21_1 : Plan := (.take 0 (.load 1 (.take 3 (.load 4 (.alt 2 (.alt 5 (.alt 6 (.one 7 (.one 8 .done)) (.alt 7 (.one 6 (.one 8 .done)) .done)) (.alt 7 (.one 5 (.one 6 (.one 8 .done))) .done)) (.alt 7 (.one 2 (.one 5 (.one 6 (.one 8 .done)))) .done))))))
def p21_6 : Plan := (.take 0 (.load 1 (.take 2 (.take 3 (.take 4 (.load 5 (.take 6 (.load 7 (.take 8 (.take 9 (.take 10 (.load 11 (.take 13 (.load 14 (.take 15 (.take 16 (.take 17 (.load 18 (.alt 12 (.alt 19 (.alt 20 (.one 21 (.one 22 .done)) (.alt 21 (.one 20 (.one 22 .done)) .done)) (.alt 21 (.one 19 (.one 20 (.one 22 .done))) .done)) (.alt 21 (.one 12 (.one 19 (.one 20 (.one 22 .done)))) .done))))))))))))))))))))
def p21_7 : Plan := (.take 0 (.load 1 (.take 2 (.load 3 (.take 4 (.take 5 (.take 6 (.load 7 (.one 8 (.take 9 (.one 10 .done)))))))))))
theorem back_spec (G : Glob) (p : Pg) (h : BkOk p) : Spec Tryz.prog G 21 [.d (.agg p.cs)] [] (.ret (.d (.agg p.cs))) [] := by
  obtain ⟨vars, arrays, procs, main⟩ := p
  obtain ⟨hw, hmd, hmo, hpc⟩ := h
  simp only at hmd hmo hpc
  simp only [wtPg] at hw
  have h1 := wtV_len vars
  have h2 := wtA_len arrays
  have h3 := wtP_len procs
  have hb1 : arrays.length ≤ 1073741824 := by omega
  have hb2 : procs.length ≤ 1073741824 := by omega
  refine spec_of_awp2 TT_ok (N := 64) Tryz.func21 rfl (by rfl) (Nat.le_refl _) rfl ?_
  refine awp_seq ?_; refine rgn fun pan K hp hK => ?_; refine hK _ ?_; clear hK hp K pan; refine awp_norm [1, 2] rfl rfl ?_
  refine awp_cut (fun Z => Z = ⟨[(1, .box 0 0), (2, .box 1 0), (3, .box 2 0)], [.box 28 [.d (.sl 1 (strs vars)), .d (.sl 2 (ars arrays)), .d (.sl 7 (pcs procs)), .d (.sl 7 (sms main))], .box 37 [.d (.s (.slice none 0 0)), .d (.s (.slice none 0 0)), .d (.s (.slice none 0 0)), .d (.s (.slice none 0 0))], .box 37 [.d (.s (.slice none 0 0)), .d (.sl 2 (ars arrays)), .d (.s (.slice none 0 0)), .d (.sl 7 (sms main))]]⟩) ?_ ?_
  · refine (awp_draw TT_ok mixed p21_1 [5, 8] (fun i => Nat.beq i 0) (by kernel_rfl) fun pan K hp hK => ?_)
    refine And.intro ?_ ?_
    · show aCall _ _ _ _ _ _ _
      refine aCall_ret (L := []) rfl rfl rfl (arraysBack_spec G arrays hb1) rfl rfl rfl rfl ?_
      refine And.intro ?_ ?_
      · show aCall _ _ _ _ _ _ _
        refine aCall_ret (L := []) rfl rfl rfl (stmtsBack_all G main hmd hmo (by omega)) rfl rfl rfl rfl ?_
        refine And.intro ?_ ?_
        · refine hK _ ?_; clear hK hp K pan
          exact ⟨_, sub_norm (slots := [1, 2, 3]) rfl rfl, rfl⟩
        refine And.intro ?_ ?_
        · refine hK _ ?_; clear hK hp K pan
          exact ⟨_, sub_norm (slots := [1, 2, 3]) rfl rfl, rfl⟩
        trivial
      refine And.intro ?_ ?_
      · show aCall _ _ _ _ _ _ _
        refine aCall_ret (L := []) rfl rfl rfl (stmtsBack_all G main hmd hmo (by omega)) rfl rfl rfl rfl ?_
        refine hK _ ?_; clear hK hp K pan
        exact ⟨_, sub_norm (slots := [1, 2, 3]) rfl rfl, rfl⟩
      trivial
    refine And.intro ?_ ?_
    · show aCall _ _ _ _ _ _ _
      refine aCall_ret (L := []) rfl rfl rfl (arraysBack_spec G arrays hb1) rfl rfl rfl rfl ?_
      show aCall _ _ _ _ _ _ _
      refine aCall_ret (L := []) rfl rfl rfl (stmtsBack_all G main hmd hmo (by omega)) rfl rfl rfl rfl ?_
      refine hK _ ?_; clear hK hp K pan
      exact ⟨_, sub_norm (slots := [1, 2, 3]) rfl rfl, rfl⟩
    trivial
  rintro Z rfl
  refine awp_accCell 2 0 9 1 rfl rfl rfl rfl ?_
  refine awp_accCell 2 2 145 7 rfl rfl rfl rfl ?_
  refine awp_norm [1, 2, 3] rfl rfl ?_; refine awp_seq ?_; refine rgn fun pan K hp hK => ?_
  refine And.intro (And.intro ((by simp only [strs_length, List.length_nil]; omega)) ((by simp only [strs_length, List.length_nil, maxLen]; omega))) ?_
  refine hK _ ?_; clear hK hp K pan; refine awp_norm [1, 2, 3] rfl rfl ?_; refine awp_seq ?_; refine awp_seq ?_; refine rgn fun pan K hp hK => ?_; refine hK _ ?_; clear hK hp K pan; refine awp_norm [1, 2, 3, 4] rfl rfl ?_; refine awp_block ?_
  refine awp_loop (fun k Y => ∃ (d1 e1 : List Pc), k = e1.length ∧ procs = d1 ++ e1 ∧ Y = ⟨[(1, .box 0 0), (2, .box 1 0), (3, .box 2 0), (4, .d (num d1.length))], [.box 28 [.d (.sl 1 (strs vars)), .d (.sl 2 (ars arrays)), .d (.sl 7 (pcs procs)), .d (.sl 7 (sms main))], .box 37 [.d (.s (.slice none 0 0)), .d (.s (.slice none 0 0)), .d (.s (.slice none 0 0)), .d (.s (.slice none 0 0))], .box 37 [.acc 3, .d (.sl 2 (ars arrays)), .acc 4, .d (.sl 7 (sms main))], .acc 9 1 (strs vars), .acc 145 7 (pcs d1)]⟩) (procs.length) (⟨[], procs, rfl, rfl, rfl⟩) ?_
  rintro k Y ⟨d1, e1, rfl, hl1, rfl⟩
  have hll1 : (pcs procs).length = d1.length + e1.length := by rw [pcs, List.length_map, hl1, List.length_append]
  have hdl1 : d1.length + e1.length ≤ 1073741824 := by rw [hl1, List.length_append] at hb2; exact hb2
  refine awp_seq ?_; refine awp_seq ?_; refine rgn fun pan K hp hK => ?_; refine hK _ ?_; clear hK hp K pan; refine awp_norm [1, 2, 3, 4, 23] rfl rfl ?_
  refine awp_cond2 rfl (onB_intro (fun h1 => ?_) (fun h1 => ?_))
  · have h1' := of_decide_eq_true h1
    rw [hll1] at h1'
    cases e1 with
    | nil => simp only [List.length_nil] at h1'; omega
    | cons x e1b =>
    obtain ⟨nm, ps, bd, rt⟩ := x
    obtain ⟨p1, n1, m1, l1⟩ := rt
    subst hl1
    simp only [List.length_cons] at hdl1
    have hpx := wtP_app d1 (⟨nm, ps, bd, .mk p1 n1 m1 l1⟩ :: e1b)
    simp only [wtP] at hpx
    have hpl := wtV_len ps
    obtain ⟨q1, q2, q3⟩ := hpc ⟨nm, ps, bd, .mk p1 n1 m1 l1⟩ (by simp)
    simp only at q1 q2 q3
    refine awp_skip ?_; refine awp_seq ?_; refine awp_block ?_
    refine awp_cut (fun Z => Z = ⟨[(1, .box 0 0), (2, .box 1 0), (3, .box 2 0), (4, .d (num d1.length)), (5, .box 5 0)], [.box 28 [.d (.sl 1 (strs vars)), .d (.sl 2 (ars arrays)), .d (.sl 7 (pcs (d1 ++ ⟨nm, ps, bd, .mk p1 n1 m1 l1⟩ :: e1b))), .d (.sl 7 (sms main))], .box 37 [.d (.s (.slice none 0 0)), .d (.s (.slice none 0 0)), .d (.s (.slice none 0 0)), .d (.s (.slice none 0 0))], .box 37 [.acc 3, .d (.sl 2 (ars arrays)), .acc 4, .d (.sl 7 (sms main))], .acc 9 1 (strs vars), .acc 145 7 (pcs d1), .box 145 [.d (str nm), .d (.s (.slice none 0 0)), .d (.sl 7 (sms bd)), .d (str p1), .d (num n1), .d (str m1), .d (.sl 4 (exs l1))]]⟩) ?_ ?_
    · refine (awp_draw TT_ok mixed p21_6 [22] (fun i => Nat.beq i 0) (by kernel_rfl) fun pan K hp hK => ?_)
      refine And.intro (by omega) (Exists.intro _ (And.intro (pcs_at rfl) ?_))
      refine And.intro (by omega) (Exists.intro _ (And.intro (pcs_at rfl) ?_))
      refine And.intro (by omega) (Exists.intro _ (And.intro (pcs_at rfl) ?_))
      refine And.intro ?_ ?_
      · show aCall _ _ _ _ _ _ _
        refine aCall_ret (L := []) rfl rfl rfl (stmtsBack_all G bd q1 q2 (by omega)) rfl rfl rfl rfl ?_
        refine And.intro ?_ ?_
        · show aCall _ _ _ _ _ _ _
          refine aCall_ret (L := []) rfl rfl rfl (exprBack_spec G (.mk p1 n1 m1 l1) q3 (by omega)) rfl rfl rfl rfl ?_
          refine And.intro ?_ ?_
          · refine hK _ ?_; clear hK hp K pan
            exact ⟨_, sub_norm (slots := [1, 2, 3, 4, 5]) rfl rfl, rfl⟩
          refine And.intro ?_ ?_
          · refine hK _ ?_; clear hK hp K pan
            exact ⟨_, sub_norm (slots := [1, 2, 3, 4, 5]) rfl rfl, rfl⟩
          trivial
        refine And.intro ?_ ?_
        · show aCall _ _ _ _ _ _ _
          refine aCall_ret (L := []) rfl rfl rfl (exprBack_spec G (.mk p1 n1 m1 l1) q3 (by omega)) rfl rfl rfl rfl ?_
          refine hK _ ?_; clear hK hp K pan
          exact ⟨_, sub_norm (slots := [1, 2, 3, 4, 5]) rfl rfl, rfl⟩
        trivial
      refine And.intro ?_ ?_
      · show aCall _ _ _ _ _ _ _
        refine aCall_ret (L := []) rfl rfl rfl (stmtsBack_all G bd q1 q2 (by omega)) rfl rfl rfl rfl ?_
        show aCall _ _ _ _ _ _ _
        refine aCall_ret (L := []) rfl rfl rfl (exprBack_spec G (.mk p1 n1 m1 l1) q3 (by omega)) rfl rfl rfl rfl ?_
        refine hK _ ?_; clear hK hp K pan
        exact ⟨_, sub_norm (slots := [1, 2, 3, 4, 5]) rfl rfl, rfl⟩
      trivial
    rintro Z rfl
    refine awp_accCell 5 1 9 1 rfl rfl rfl rfl ?_
    refine awp_norm [1, 2, 3, 4, 5] rfl rfl ?_; refine awp_seq ?_
    refine (awp_draw TT_ok mixed p21_7 [8, 10] (fun _ => true) (by kernel_rfl) fun pan K hp hK => ?_)
    refine And.intro (by omega) (Exists.intro _ (And.intro (pcs_at rfl) ?_))
    refine And.intro (And.intro ((by simp only [strs_length, List.length_nil]; omega)) ((by simp only [strs_length, List.length_nil, maxLen]; omega))) ?_
    refine hK _ ?_; clear hK hp K pan; refine awp_norm [1, 2, 3, 4, 5] rfl rfl ?_; refine rgn fun pan K hp hK => ?_
    refine And.intro (And.intro ((by simp only [pcs, List.length_map, chunk_length]; omega)) ((by simp only [pcs, List.length_map, chunk_length, maxLen]; omega))) ?_
    refine hK _ ?_; clear hK hp K pan; refine awp_norm [1, 2, 3, 4] rfl rfl ?_; refine rgn fun pan K hp hK => ?_; refine hK _ ?_; clear hK hp K pan
    exact ⟨_, Nat.lt_succ_self _, _, sub_pick (L := [0, 1, 2, 3, 4]) (slots := [1, 2, 3, 4]) rfl rfl rfl rfl rfl, d1 ++ [⟨nm, ps, bd, .mk p1 n1 m1 l1⟩], e1b, rfl, by simp, by rw [← pcs_snoc, List.length_append, wrapId (by omega) (by omega)]; rfl⟩
  have h1' := of_decide_eq_false h1
  rw [hll1] at h1'
  obtain rfl : e1 = [] := List.eq_nil_of_length_eq_zero (by omega)
  rw [List.append_nil] at hl1
  subst hl1
  refine awp_exit ?_
  refine awp_norm [2, 3] rfl rfl ?_; refine awp_seq ?_; refine rgn fun pan K hp hK => ?_; refine hK _ ?_; clear hK hp K pan; refine awp_norm [2] rfl rfl ?_; refine awp_ret ?_
  exact ⟨_, [], _, [encP ⟨vars, arrays, procs, main⟩], rfl, rfl, rfl, rfl, rfl, PWs.refl _, rfl⟩
section
variable {t : Nat → TypeId} {u : Nat → Value}
theorem noProg_spec (G : Glob) : Spec Tryz.prog G 19 [.d (.agg zPg.cs)] [] (.ret (.d (.s (.bool true)))) [] := by
  refine spec_of_awp2 TT_ok (N := 25) Tryz.func19 rfl (by rfl) (Nat.le_refl _) rfl ?_
  refine awp_seq ?_; refine rgn fun pan K hp hK => ?_; refine hK _ ?_; clear hK hp K pan; refine awp_norm [1] rfl rfl ?_; refine awp_seq ?_; refine rgn fun pan K hp hK => ?_; refine hK _ ?_; clear hK hp K pan; refine awp_norm [2] rfl rfl ?_; refine awp_ret ?_
  exact ⟨_, [], _, [.d (.s (.bool true))], rfl, rfl, rfl, rfl, rfl, PWs.refl _, rfl⟩
end
end Go.Abs
end
