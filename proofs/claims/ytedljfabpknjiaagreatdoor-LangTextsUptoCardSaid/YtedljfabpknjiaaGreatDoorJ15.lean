/- Texts of this proof, joined: AbsRG, AbsLF, AbsLG. -/
import Derived.Test.YtedljfabpknjiaaGreatDoorJ14
section
namespace Go.Abs
open Go Go.Proofs
attribute [local irreducible] aCall AWp Sub Spec
theorem sms_snoc2 : ∀ (l : List Sm) (e : Sm), sms l ++ [e.cs] = sms (l ++ [e])
  | [], e => rfl
  | x :: r, e => by simp only [sms, List.cons_append, sms_snoc2 r e]
def OfE (G : Glob) (f : FuncId) (m : Nat) : Prop := ∀ l : List Ex, fuL l < m → wtL l ≤ 1000000000 → Spec Tryz.prog G f [.d (.sl 4 (exs l))] [] (.ret (.d (.sl 4 (exs l)))) []
theorem tss_len3 (l : List Ts) : (tss l).length = l.length := by simp [tss]
theorem cnd_len3 (l : List (List Ts)) : (cnd l).length = l.length := by simp [cnd]
theorem fuL_app : ∀ (a b : List Ex), fuL (a ++ b) = fuL a + fuL b
  | [], b => by simp [fuL]
  | x :: a, b => by simp only [List.cons_append, fuL, fuL_app a b]; omega
theorem wtL_app : ∀ (a b : List Ex), wtL (a ++ b) = wtL a + wtL b
  | [], b => by simp [wtL]
  | x :: a, b => by simp only [List.cons_append, wtL, wtL_app a b]; omega
def p156_5 : Plan := (.take 0 (.take 1 (.take 2 (.take 3 (.take 4 (.load 5 (.take 6 (.take 7 (.take 8 (.take 9 (.load 10 (.take 11 (.take 12 (.take 13 (.take 14 (.load 15 (.take 16 (.take 17 (.take 18 (.take 19 (.load 20 (.one 21 (.one 22 (.one 23 (.one 24 (.take 25 .done))))))))))))))))))))))))))
theorem exprsOf_step (G : Glob) (m : Nat) (ih : OfE G 156 m) : OfE G 156 (m + 1) := by
  intro l hf hw
  have hlen := wtL_len l
  have hbig : l.length ≤ 1073741824 := by omega
  refine spec_of_awp2 TT_ok (N := 37) Tryz.func156 rfl (by rfl) (Nat.le_refl _) rfl ?_
  refine awp_seq ?_; refine rgn fun pan K hp hK => ?_; refine hK _ ?_; clear hK hp K pan; refine awp_norm [0] rfl rfl ?_; refine awp_seq ?_; refine rgn fun pan K hp hK => ?_; refine hK _ ?_; clear hK hp K pan; refine awp_norm [0, 3] rfl rfl ?_; refine awp_seq ?_; refine awp_seq ?_; refine rgn fun pan K hp hK => ?_; refine hK _ ?_; clear hK hp K pan; refine awp_norm [0, 3, 4] rfl rfl ?_
  refine awp_acc 3 157 4 rfl rfl rfl ?_
  refine awp_norm [0, 3, 4] rfl rfl ?_; refine awp_block ?_
  refine awp_loop (fun k Y => ∃ (d1 e1 : List Ex), k = e1.length ∧ l = d1 ++ e1 ∧ Y = ⟨[(0, .d (.sl 4 (exs l))), (3, .acc 0), (4, .d (num d1.length))], [.acc 157 4 (exs d1)]⟩) (l.length) (⟨[], l, rfl, rfl, rfl⟩) ?_
  rintro k Y ⟨d1, e1, rfl, hl1, rfl⟩
  have hll1 : (exs l).length = d1.length + e1.length := by rw [ex_len, hl1, List.length_append]
  have hdl1 : d1.length + e1.length ≤ 1073741824 := by rw [hl1, List.length_append] at hbig; exact hbig
  refine awp_seq ?_; refine awp_seq ?_; refine rgn fun pan K hp hK => ?_; refine hK _ ?_; clear hK hp K pan; refine awp_norm [0, 3, 4, 8] rfl rfl ?_
  refine awp_cond2 rfl (onB_intro (fun h1 => ?_) (fun h1 => ?_))
  · have h1' := of_decide_eq_true h1
    rw [hll1] at h1'
    cases e1 with
    | nil => simp only [List.length_nil] at h1'; omega
    | cons x e1b =>
    obtain ⟨p1, n1, m1, l1⟩ := x
    subst hl1
    simp only [List.length_cons] at hdl1
    have hfx : fuL l1 < m := by rw [fuL_app] at hf; simp only [fuL, fuE] at hf; omega
    have hwx : wtL l1 ≤ 1000000000 := by rw [wtL_app] at hw; simp only [wtL, wtE] at hw; omega
    refine awp_skip ?_; refine awp_seq ?_; refine awp_block ?_
    refine (awp_draw TT_ok mixed p156_5 [24] (fun _ => false) (by kernel_rfl) fun pan K hp hK => ?_)
    refine And.intro ((by omega)) (Exists.intro _ (And.intro (exs_at rfl) ?_))
    refine And.intro ((by omega)) (Exists.intro _ (And.intro (exs_at rfl) ?_))
    refine And.intro ((by omega)) (Exists.intro _ (And.intro (exs_at rfl) ?_))
    refine And.intro ((by omega)) (Exists.intro _ (And.intro (exs_at rfl) ?_))
    show aCall _ _ _ _ _ _ _
    refine aCall_ret (L := []) rfl rfl rfl (ih l1 hfx hwx) rfl rfl rfl rfl ?_
    refine And.intro (And.intro ((by simp only [ex_len, chunk_length]; omega)) ((by simp only [ex_len, chunk_length, maxLen]; omega))) ?_
    refine hK _ ?_; clear hK hp K pan; refine awp_norm [0, 3, 4] rfl rfl ?_; refine rgn fun pan K hp hK => ?_; refine hK _ ?_; clear hK hp K pan
    exact ⟨_, Nat.lt_succ_self _, _, sub_pick (L := [0]) (slots := [0, 3, 4]) rfl rfl rfl rfl rfl, d1 ++ [.mk p1 n1 m1 l1], e1b, rfl, by simp, by rw [← exs_snoc, List.length_append, wrapId (by omega) (by omega)]; rfl⟩
  have h1' := of_decide_eq_false h1
  rw [hll1] at h1'
  obtain rfl : e1 = [] := List.eq_nil_of_length_eq_zero (by omega)
  rw [List.append_nil] at hl1
  subst hl1
  refine awp_exit ?_
  refine awp_norm [3] rfl rfl ?_; refine awp_seq ?_; refine rgn fun pan K hp hK => ?_; refine hK _ ?_; clear hK hp K pan; refine awp_norm [2] rfl rfl ?_; refine awp_ret ?_
  exact ⟨_, [], _, [.d (.sl 4 (exs l))], rfl, rfl, rfl, rfl, rfl, PWs.refl _, rfl⟩
theorem exprsOf_spec (G : Glob) : ∀ m, OfE G 156 m
  | 0 => fun l h => absurd h (by omega)
  | m + 1 => exprsOf_step G m (exprsOf_spec G m)
theorem exprsOf_all (G : Glob) (l : List Ex) (hw : wtL l ≤ 1000000000) : Spec Tryz.prog G 156 [.d (.sl 4 (exs l))] [] (.ret (.d (.sl 4 (exs l)))) [] := exprsOf_spec G (fuL l + 1) l (Nat.lt_succ_self _) hw
def p84_1 : Plan := (.take 0 (.load 1 (.take 2 (.load 3 (.take 4 (.load 5 (.take 6 (.load 7 (.one 8 (.one 9 (.one 10 .done)))))))))))
theorem exprOf_spec (G : Glob) (e : Ex) (hw : wtE e ≤ 1000000000) : Spec Tryz.prog G 84 [.d (.agg e.cs)] [] (.ret (.d (.agg e.cs))) [] := by
  obtain ⟨op, n, nm, l⟩ := e
  refine spec_of_awp2 TT_ok (N := 13) Tryz.func84 rfl (by rfl) (Nat.le_refl _) rfl ?_
  refine awp_seq ?_; refine rgn fun pan K hp hK => ?_; refine hK _ ?_; clear hK hp K pan; refine awp_norm [1, 2] rfl rfl ?_; refine awp_seq ?_
  refine (awp_draw TT_ok mixed p84_1 [10] (fun i => Nat.beq i 0) (by kernel_rfl) fun pan K hp hK => ?_)
  show aCall _ _ _ _ _ _ _
  refine aCall_ret (L := []) rfl rfl rfl (exprsOf_all G l (by simp only [wtE] at hw; omega)) rfl rfl rfl rfl ?_
  refine hK _ ?_; clear hK hp K pan; refine awp_norm [2] rfl rfl ?_; refine awp_ret ?_
  exact ⟨_, [], _, [encE (.mk op n nm l)], rfl, rfl, rfl, rfl, rfl, PWs.refl _, rfl⟩
theorem wtR_app : ∀ (a b : List Ts), wtR b ≤ wtR (a ++ b)
  | [], b => Nat.le_refl _
  | x :: a, b => by have := wtR_app a b; simp only [List.cons_append, wtR]; omega
def p157_5 : Plan := (.take 0 (.take 1 (.take 2 (.take 3 (.take 4 (.load 5 (.take 7 (.take 8 (.take 9 (.take 10 (.load 11 (.take 12 (.take 13 (.take 14 (.take 15 (.load 16 (.one 6 (.one 17 (.one 18 (.one 19 (.one 20 (.take 21 .done))))))))))))))))))))))
theorem testsOf_spec (G : Glob) (l : List Ts) (hw : wtR l ≤ 1000000000) : Spec Tryz.prog G 157 [.d (.sl 9 (tss l))] [] (.ret (.d (.sl 9 (tss l)))) [] := by
  have hlen := wtR_len l
  have hbig : l.length ≤ 1073741824 := by omega
  refine spec_of_awp2 TT_ok (N := 33) Tryz.func157 rfl (by rfl) (Nat.le_refl _) rfl ?_
  refine awp_seq ?_; refine rgn fun pan K hp hK => ?_; refine hK _ ?_; clear hK hp K pan; refine awp_norm [0] rfl rfl ?_; refine awp_seq ?_; refine rgn fun pan K hp hK => ?_; refine hK _ ?_; clear hK hp K pan; refine awp_norm [0, 3] rfl rfl ?_; refine awp_seq ?_; refine awp_seq ?_; refine rgn fun pan K hp hK => ?_; refine hK _ ?_; clear hK hp K pan; refine awp_norm [0, 3, 4] rfl rfl ?_
  refine awp_acc 3 282 9 rfl rfl rfl ?_
  refine awp_norm [0, 3, 4] rfl rfl ?_; refine awp_block ?_
  refine awp_loop (fun k Y => ∃ (d1 e1 : List Ts), k = e1.length ∧ l = d1 ++ e1 ∧ Y = ⟨[(0, .d (.sl 9 (tss l))), (3, .acc 0), (4, .d (num d1.length))], [.acc 282 9 (tss d1)]⟩) (l.length) (⟨[], l, rfl, rfl, rfl⟩) ?_
  rintro k Y ⟨d1, e1, rfl, hl1, rfl⟩
  have hll1 : (tss l).length = d1.length + e1.length := by rw [tss_len3, hl1, List.length_append]
  have hdl1 : d1.length + e1.length ≤ 1073741824 := by rw [hl1, List.length_append] at hbig; exact hbig
  refine awp_seq ?_; refine awp_seq ?_; refine rgn fun pan K hp hK => ?_; refine hK _ ?_; clear hK hp K pan; refine awp_norm [0, 3, 4, 8] rfl rfl ?_
  refine awp_cond2 rfl (onB_intro (fun h1 => ?_) (fun h1 => ?_))
  · have h1' := of_decide_eq_true h1
    rw [hll1] at h1'
    cases e1 with
    | nil => simp only [List.length_nil] at h1'; omega
    | cons x e1b =>
    obtain ⟨⟨p1, n1, m1, l1⟩, rel, ⟨p2, n2, m2, l2⟩⟩ := x
    subst hl1
    simp only [List.length_cons] at hdl1
    have hx := wtR_app d1 (⟨.mk p1 n1 m1 l1, rel, .mk p2 n2 m2 l2⟩ :: e1b)
    rw [wtR, wtT] at hx
    simp only at hx
    refine awp_skip ?_; refine awp_seq ?_; refine awp_block ?_
    refine (awp_draw TT_ok mixed p157_5 [20] (fun _ => false) (by kernel_rfl) fun pan K hp hK => ?_)
    refine And.intro ((by omega)) (Exists.intro _ (And.intro (tss_at rfl) ?_))
    refine And.intro ((by omega)) (Exists.intro _ (And.intro (tss_at rfl) ?_))
    refine And.intro ((by omega)) (Exists.intro _ (And.intro (tss_at rfl) ?_))
    show aCall _ _ _ _ _ _ _
    refine aCall_ret (L := []) rfl rfl rfl (exprOf_spec G (.mk p1 n1 m1 l1) (by omega)) rfl rfl rfl rfl ?_
    show aCall _ _ _ _ _ _ _
    refine aCall_ret (L := []) rfl rfl rfl (exprOf_spec G (.mk p2 n2 m2 l2) (by omega)) rfl rfl rfl rfl ?_
    refine And.intro (And.intro ((by simp only [tss_len3, chunk_length]; omega)) ((by simp only [tss_len3, chunk_length, maxLen]; omega))) ?_
    refine hK _ ?_; clear hK hp K pan; refine awp_norm [0, 3, 4] rfl rfl ?_; refine rgn fun pan K hp hK => ?_; refine hK _ ?_; clear hK hp K pan
    exact ⟨_, Nat.lt_succ_self _, _, sub_pick (L := [0]) (slots := [0, 3, 4]) rfl rfl rfl rfl rfl, d1 ++ [⟨.mk p1 n1 m1 l1, rel, .mk p2 n2 m2 l2⟩], e1b, rfl, by simp, by rw [← tss_snoc, List.length_append, wrapId (by omega) (by omega)]; rfl⟩
  have h1' := of_decide_eq_false h1
  rw [hll1] at h1'
  obtain rfl : e1 = [] := List.eq_nil_of_length_eq_zero (by omega)
  rw [List.append_nil] at hl1
  subst hl1
  refine awp_exit ?_
  refine awp_norm [3] rfl rfl ?_; refine awp_seq ?_; refine rgn fun pan K hp hK => ?_; refine hK _ ?_; clear hK hp K pan; refine awp_norm [2] rfl rfl ?_; refine awp_ret ?_
  exact ⟨_, [], _, [.d (.sl 9 (tss l))], rfl, rfl, rfl, rfl, rfl, PWs.refl _, rfl⟩
theorem fuB_app : ∀ (a b : List Sm), fuB b ≤ fuB (a ++ b)
  | [], b => Nat.le_refl _
  | x :: a, b => by have := fuB_app a b; simp only [List.cons_append, fuB]; omega
theorem wtB_app : ∀ (a b : List Sm), wtB b ≤ wtB (a ++ b)
  | [], b => Nat.le_refl _
  | x :: a, b => by have := wtB_app a b; simp only [List.cons_append, wtB]; omega
theorem wtC_app : ∀ (a b : List (List Ts)), wtC b ≤ wtC (a ++ b)
  | [], b => Nat.le_refl _
  | x :: a, b => by have := wtC_app a b; simp only [List.cons_append, wtC]; omega
theorem wtP_app : ∀ (a b : List Pc), wtP b ≤ wtP (a ++ b)
  | [], b => Nat.le_refl _
  | x :: a, b => by have := wtP_app a b; simp only [List.cons_append, wtP]; omega
def OfS (G : Glob) (m : Nat) : Prop := ∀ l : List Sm, fuB l < m → wtB l ≤ 1000000000 → Spec Tryz.prog G 83 [.d (.sl 7 (sms l))] [] (.ret (.d (.sl 7 (sms l)))) []
set_option maxHeartbeats 1000000
def p83_5 : Plan := (.take 0 (.take 1 (.take 2 (.take 3 (.load 4 (.take 5 (.take 6 (.take 7 (.take 8 (.load 9 (.take 10 (.take 11 (.take 12 (.take 13 (.load 14 (.take 15 (.take 16 (.take 17 (.take 18 (.load 19 (.take 21 (.take 22 (.take 23 (.take 24 (.load 25 (.take 27 (.take 28 (.take 29 (.take 30 (.load 31 (.alt 20 (.alt 26 (.alt 32 (.alt 33 (.one 34 (.one 35 .done)) (.alt 34 (.one 33 (.one 35 .done)) .done)) (.alt 34 (.one 32 (.one 33 (.one 35 .done))) .done)) (.alt 34 (.one 26 (.one 32 (.one 33 (.one 35 .done)))) .done)) (.alt 34 (.one 20 (.one 26 (.one 32 (.one 33 (.one 35 .done))))) .done))))))))))))))))))))))))))))))))
def p83_9 : Plan := (.take 0 (.load 1 (.take 2 (.take 3 (.take 4 (.take 5 (.load 6 (.take 7 (.take 8 (.load 9 (.one 10 (.one 11 (.one 12 (.take 13 (.one 14 .done)))))))))))))))
theorem stmtsOf_step (G : Glob) (m : Nat) (ih : OfS G m) : OfS G (m + 1) := by
  intro l hf hw
  have hlen := wtB_len l
  have hbig : l.length ≤ 1073741824 := by omega
  refine spec_of_awp2 TT_ok (N := 76) Tryz.func83 rfl (by rfl) (Nat.le_refl _) rfl ?_
  refine awp_seq ?_; refine rgn fun pan K hp hK => ?_; refine hK _ ?_; clear hK hp K pan; refine awp_norm [0] rfl rfl ?_; refine awp_seq ?_; refine rgn fun pan K hp hK => ?_; refine hK _ ?_; clear hK hp K pan; refine awp_norm [0, 3] rfl rfl ?_; refine awp_seq ?_; refine awp_seq ?_; refine rgn fun pan K hp hK => ?_; refine hK _ ?_; clear hK hp K pan; refine awp_norm [0, 3, 4] rfl rfl ?_
  refine awp_acc 3 217 7 rfl rfl rfl ?_
  refine awp_norm [0, 3, 4] rfl rfl ?_; refine awp_block ?_
  refine awp_loop (fun k Y => ∃ (d1 e1 : List Sm), k = e1.length ∧ l = d1 ++ e1 ∧ Y = ⟨[(0, .d (.sl 7 (sms l))), (3, .acc 0), (4, .d (num d1.length))], [.acc 217 7 (sms d1)]⟩) (l.length) (⟨[], l, rfl, rfl, rfl⟩) ?_
  rintro k Y ⟨d1, e1, rfl, hl1, rfl⟩
  have hll1 : (sms l).length = d1.length + e1.length := by rw [sms_len2, hl1, List.length_append]
  have hdl1 : d1.length + e1.length ≤ 1073741824 := by rw [hl1, List.length_append] at hbig; exact hbig
  refine awp_seq ?_; refine awp_seq ?_; refine rgn fun pan K hp hK => ?_; refine hK _ ?_; clear hK hp K pan; refine awp_norm [0, 3, 4, 10] rfl rfl ?_
  refine awp_cond2 rfl (onB_intro (fun h1 => ?_) (fun h1 => ?_))
  · have h1' := of_decide_eq_true h1
    rw [hll1] at h1'
    cases e1 with
    | nil => simp only [List.length_nil] at h1'; omega
    | cons x e1b =>
    obtain ⟨kind, name, proc, args, cond, body, els⟩ := x
    subst hl1
    simp only [List.length_cons] at hdl1
    have hfx := fuB_app d1 (.mk kind name proc args cond body els :: e1b)
    have hwx := wtB_app d1 (.mk kind name proc args cond body els :: e1b)
    simp only [fuB, fuS, wtB, wtS] at hfx hwx
    have hfb := fuB_ge body
    have hfe := fuB_ge els
    have hcl := wtC_len cond
    have hbig2 : cond.length ≤ 1073741824 := by omega
    refine awp_skip ?_; refine awp_seq ?_; refine awp_block ?_
    refine awp_cut (fun Z => Z = ⟨[(0, .d (.sl 7 (sms (d1 ++ .mk kind name proc args cond body els :: e1b)))), (3, .acc 0), (4, .d (num d1.length)), (5, .box 1 0)], [.acc 217 7 (sms d1), .box 217 [.d (str kind), .d (str name), .d (str proc), .d (.sl 4 (exs args)), .d (.s (.slice none 0 0)), .d (.sl 7 (sms body)), .d (.sl 7 (sms els))]]⟩) ?_ ?_
    · refine (awp_draw TT_ok mixed p83_5 [35] (fun _ => false) (by kernel_rfl) fun pan K hp hK => ?_)
      refine And.intro ((by omega)) (Exists.intro _ (And.intro (sms_at2 rfl) ?_))
      refine And.intro ((by omega)) (Exists.intro _ (And.intro (sms_at2 rfl) ?_))
      refine And.intro ((by omega)) (Exists.intro _ (And.intro (sms_at2 rfl) ?_))
      refine And.intro ((by omega)) (Exists.intro _ (And.intro (sms_at2 rfl) ?_))
      refine And.intro ((by omega)) (Exists.intro _ (And.intro (sms_at2 rfl) ?_))
      refine And.intro ((by omega)) (Exists.intro _ (And.intro (sms_at2 rfl) ?_))
      refine And.intro ?_ ?_
      · show aCall _ _ _ _ _ _ _
        refine aCall_ret (L := []) rfl rfl rfl (exprsOf_all G args (by omega)) rfl rfl rfl rfl ?_
        refine And.intro ?_ ?_
        · show aCall _ _ _ _ _ _ _
          refine aCall_ret (L := []) rfl rfl rfl (ih body (by omega) (by omega)) rfl rfl rfl rfl ?_
          refine And.intro ?_ ?_
          · show aCall _ _ _ _ _ _ _
            refine aCall_ret (L := []) rfl rfl rfl (ih els (by omega) (by omega)) rfl rfl rfl rfl ?_
            refine And.intro ?_ ?_
            · refine hK _ ?_; clear hK hp K pan
              exact ⟨_, sub_norm (slots := [0, 3, 4, 5]) rfl rfl, rfl⟩
            refine And.intro ?_ ?_
            · refine hK _ ?_; clear hK hp K pan
              exact ⟨_, sub_norm (slots := [0, 3, 4, 5]) rfl rfl, rfl⟩
            trivial
          refine And.intro ?_ ?_
          · show aCall _ _ _ _ _ _ _
            refine aCall_ret (L := []) rfl rfl rfl (ih els (by omega) (by omega)) rfl rfl rfl rfl ?_
            refine hK _ ?_; clear hK hp K pan
            exact ⟨_, sub_norm (slots := [0, 3, 4, 5]) rfl rfl, rfl⟩
          trivial
        refine And.intro ?_ ?_
        · show aCall _ _ _ _ _ _ _
          refine aCall_ret (L := []) rfl rfl rfl (ih body (by omega) (by omega)) rfl rfl rfl rfl ?_
          show aCall _ _ _ _ _ _ _
          refine aCall_ret (L := []) rfl rfl rfl (ih els (by omega) (by omega)) rfl rfl rfl rfl ?_
          refine hK _ ?_; clear hK hp K pan
          exact ⟨_, sub_norm (slots := [0, 3, 4, 5]) rfl rfl, rfl⟩
        trivial
      refine And.intro ?_ ?_
      · show aCall _ _ _ _ _ _ _
        refine aCall_ret (L := []) rfl rfl rfl (exprsOf_all G args (by omega)) rfl rfl rfl rfl ?_
        show aCall _ _ _ _ _ _ _
        refine aCall_ret (L := []) rfl rfl rfl (ih body (by omega) (by omega)) rfl rfl rfl rfl ?_
        show aCall _ _ _ _ _ _ _
        refine aCall_ret (L := []) rfl rfl rfl (ih els (by omega) (by omega)) rfl rfl rfl rfl ?_
        refine hK _ ?_; clear hK hp K pan
        exact ⟨_, sub_norm (slots := [0, 3, 4, 5]) rfl rfl, rfl⟩
      trivial
    rintro Z rfl
    refine awp_seq ?_; refine awp_seq ?_; refine rgn fun pan K hp hK => ?_; refine hK _ ?_; clear hK hp K pan; refine awp_norm [0, 3, 4, 5, 6] rfl rfl ?_
    refine awp_accCell 1 4 123 1 rfl rfl rfl rfl ?_
    refine awp_norm [0, 3, 4, 5, 6] rfl rfl ?_; refine awp_block ?_
    refine awp_loop (fun k Y => ∃ (d2 e2 : List (List Ts)), k = e2.length ∧ cond = d2 ++ e2 ∧ Y = ⟨[(0, .d (.sl 7 (sms (d1 ++ .mk kind name proc args cond body els :: e1b)))), (3, .acc 0), (4, .d (num d1.length)), (5, .box 1 0), (6, .d (num d2.length))], [.acc 217 7 (sms d1), .box 217 [.d (str kind), .d (str name), .d (str proc), .d (.sl 4 (exs args)), .acc 2, .d (.sl 7 (sms body)), .d (.sl 7 (sms els))], .acc 123 1 (cnd d2)]⟩) (cond.length) (⟨[], cond, rfl, rfl, rfl⟩) ?_
    rintro k Y ⟨d2, e2, rfl, hl2, rfl⟩
    have hll2 : (cnd cond).length = d2.length + e2.length := by rw [cnd_len3, hl2, List.length_append]
    have hdl2 : d2.length + e2.length ≤ 1073741824 := by rw [hl2, List.length_append] at hbig2; exact hbig2
    refine awp_seq ?_; refine awp_seq ?_; refine rgn fun pan K hp hK => ?_
    refine And.intro ((by omega)) (Exists.intro _ (And.intro (sms_at2 rfl) ?_))
    refine hK _ ?_; clear hK hp K pan; refine awp_norm [0, 3, 4, 5, 6, 54] rfl rfl ?_
    refine awp_cond2 rfl (onB_intro (fun h2 => ?_) (fun h2 => ?_))
    · have h2' := of_decide_eq_true h2
      rw [hll2] at h2'
      cases e2 with
      | nil => simp only [List.length_nil] at h2'; omega
      | cons x e2b =>
      subst hl2
      simp only [List.length_cons] at hdl2
      have hcx := wtC_app d2 (x :: e2b)
      simp only [wtC] at hcx
      refine awp_skip ?_; refine awp_seq ?_; refine awp_block ?_
      refine (awp_draw TT_ok mixed p83_9 [12, 14] (fun i => Nat.beq i 1) (by kernel_rfl) fun pan K hp hK => ?_)
      refine And.intro ((by omega)) (Exists.intro _ (And.intro (sms_at2 rfl) ?_))
      refine And.intro (by omega) (Exists.intro _ (And.intro (cnd_at rfl) ?_))
      show aCall _ _ _ _ _ _ _
      refine aCall_ret (L := []) rfl rfl rfl (testsOf_spec G x (by omega)) rfl rfl rfl rfl ?_
      refine And.intro (And.intro ((by simp only [cnd_len3, chunk_length]; omega)) ((by simp only [cnd_len3, chunk_length, maxLen]; omega))) ?_
      refine hK _ ?_; clear hK hp K pan; refine awp_norm [0, 3, 4, 5, 6] rfl rfl ?_; refine rgn fun pan K hp hK => ?_; refine hK _ ?_; clear hK hp K pan
      exact ⟨_, Nat.lt_succ_self _, _, sub_pick (L := [0, 1, 2]) (slots := [0, 3, 4, 5, 6]) rfl rfl rfl rfl rfl, d2 ++ [x], e2b, rfl, by simp, by rw [← cnd_snoc, List.length_append, wrapId (by omega) (by omega)]; rfl⟩
    have h2' := of_decide_eq_false h2
    rw [hll2] at h2'
    obtain rfl : e2 = [] := List.eq_nil_of_length_eq_zero (by omega)
    rw [List.append_nil] at hl2
    subst hl2
    refine awp_exit ?_
    refine awp_norm [0, 3, 4, 5] rfl rfl ?_; refine rgn fun pan K hp hK => ?_
    refine And.intro (And.intro ((by simp only [sms_len2, chunk_length]; omega)) ((by simp only [sms_len2, chunk_length, maxLen]; omega))) ?_
    refine hK _ ?_; clear hK hp K pan; refine awp_norm [0, 3, 4] rfl rfl ?_; refine rgn fun pan K hp hK => ?_; refine hK _ ?_; clear hK hp K pan
    exact ⟨_, Nat.lt_succ_self _, _, sub_pick (L := [0]) (slots := [0, 3, 4]) rfl rfl rfl rfl rfl, d1 ++ [.mk kind name proc args cond body els], e1b, rfl, by simp, by rw [← sms_snoc2, List.length_append, wrapId (by omega) (by omega)]; rfl⟩
  have h1' := of_decide_eq_false h1
  rw [hll1] at h1'
  obtain rfl : e1 = [] := List.eq_nil_of_length_eq_zero (by omega)
  rw [List.append_nil] at hl1
  subst hl1
  refine awp_exit ?_
  refine awp_norm [3] rfl rfl ?_; refine awp_seq ?_; refine rgn fun pan K hp hK => ?_; refine hK _ ?_; clear hK hp K pan; refine awp_norm [2] rfl rfl ?_; refine awp_ret ?_
  exact ⟨_, [], _, [.d (.sl 7 (sms l))], rfl, rfl, rfl, rfl, rfl, PWs.refl _, rfl⟩
theorem stmtsOf_spec (G : Glob) : ∀ m, OfS G m
  | 0 => fun l h => absurd h (by omega)
  | m + 1 => stmtsOf_step G m (stmtsOf_spec G m)
theorem stmtsOf_all (G : Glob) (l : List Sm) (hw : wtB l ≤ 1000000000) : Spec Tryz.prog G 83 [.d (.sl 7 (sms l))] [] (.ret (.d (.sl 7 (sms l)))) [] := stmtsOf_spec G (fuB l + 1) l (Nat.lt_succ_self _) hw
def p23_6 : Plan := (.take 0 (.load 1 (.take 2 (.load 3 (.take 4 (.take 5 (.take 6 (.load 7 (.take 8 (.load 9 (.take 10 (.take 11 (.take 12 (.load 13 (.one 14 (.one 15 (.one 16 (.take 17 (.one 18 .done)))))))))))))))))))
def p23_10 : Plan := (.take 0 (.load 1 (.take 2 (.take 3 (.take 4 (.load 5 (.take 6 (.load 7 (.take 8 (.take 9 (.take 10 (.load 11 (.take 13 (.load 14 (.take 15 (.take 16 (.take 17 (.load 18 (.alt 12 (.alt 19 (.alt 20 (.one 21 (.one 22 .done)) (.alt 21 (.one 20 (.one 22 .done)) .done)) (.alt 21 (.one 19 (.one 20 (.one 22 .done))) .done)) (.alt 21 (.one 12 (.one 19 (.one 20 (.one 22 .done)))) .done))))))))))))))))))))
def p23_11 : Plan := (.take 0 (.load 1 (.take 2 (.load 3 (.take 4 (.take 5 (.take 6 (.load 7 (.one 8 (.take 9 (.one 10 .done)))))))))))
theorem programOf_spec (G : Glob) (p : Pg) (hw : wtPg p ≤ 1000000000) : Spec Tryz.prog G 23 [.d (.agg p.cs)] [] (.ret (.d (.agg p.cs))) [] := by
  obtain ⟨vars, arrays, procs, main⟩ := p
  simp only [wtPg] at hw
  have h1 := wtV_len vars
  have h2 := wtA_len arrays
  have h3 := wtP_len procs
  have hb1 : arrays.length ≤ 1073741824 := by omega
  have hb2 : procs.length ≤ 1073741824 := by omega
  refine spec_of_awp2 TT_ok (N := 87) Tryz.func23 rfl (by rfl) (Nat.le_refl _) rfl ?_
  refine awp_seq ?_; refine rgn fun pan K hp hK => ?_; refine hK _ ?_; clear hK hp K pan; refine awp_norm [1, 2] rfl rfl ?_; refine awp_seq ?_; refine rgn fun pan K hp hK => ?_; show aCall _ _ _ _ _ _ _
  refine aCall_ret (L := []) rfl rfl rfl (stmtsOf_all G main (by omega)) rfl rfl rfl rfl ?_
  refine hK _ ?_; clear hK hp K pan; refine awp_norm [1, 2, 3] rfl rfl ?_
  refine awp_accCell 2 0 9 1 rfl rfl rfl rfl ?_
  refine awp_accCell 2 1 169 2 rfl rfl rfl rfl ?_
  refine awp_accCell 2 2 159 7 rfl rfl rfl rfl ?_
  refine awp_norm [1, 2, 3] rfl rfl ?_; refine awp_seq ?_; refine rgn fun pan K hp hK => ?_
  refine And.intro (And.intro ((by simp only [strs_length, List.length_nil]; omega)) ((by simp only [strs_length, List.length_nil, maxLen]; omega))) ?_
  refine hK _ ?_; clear hK hp K pan; refine awp_norm [1, 2, 3] rfl rfl ?_; refine awp_seq ?_; refine awp_seq ?_; refine rgn fun pan K hp hK => ?_; refine hK _ ?_; clear hK hp K pan; refine awp_norm [1, 2, 3, 4] rfl rfl ?_; refine awp_block ?_
  refine awp_loop (fun k Y => ∃ (d1 e1 : List Ar), k = e1.length ∧ arrays = d1 ++ e1 ∧ Y = ⟨[(1, .box 0 0), (2, .box 1 0), (3, .box 2 0), (4, .d (num d1.length))], [.box 37 [.d (.sl 1 (strs vars)), .d (.sl 2 (ars arrays)), .d (.sl 7 (pcs procs)), .d (.sl 7 (sms main))], .box 28 [.d (.s (.slice none 0 0)), .d (.s (.slice none 0 0)), .d (.s (.slice none 0 0)), .d (.s (.slice none 0 0))], .box 28 [.acc 3, .acc 4, .acc 5, .d (.sl 7 (sms main))], .acc 9 1 (strs vars), .acc 169 2 (ars d1), .acc 159 7 (pcs [])]⟩) (arrays.length) (⟨[], arrays, rfl, rfl, rfl⟩) ?_
  rintro k Y ⟨d1, e1, rfl, hl1, rfl⟩
  have hll1 : (ars arrays).length = d1.length + e1.length := by rw [ars, List.length_map, hl1, List.length_append]
  have hdl1 : d1.length + e1.length ≤ 1073741824 := by rw [hl1, List.length_append] at hb1; exact hb1
  refine awp_seq ?_; refine awp_seq ?_; refine rgn fun pan K hp hK => ?_; refine hK _ ?_; clear hK hp K pan; refine awp_norm [1, 2, 3, 4, 21] rfl rfl ?_
  refine awp_cond2 rfl (onB_intro (fun h1 => ?_) (fun h1 => ?_))
  · have h1' := of_decide_eq_true h1
    rw [hll1] at h1'
    cases e1 with
    | nil => simp only [List.length_nil] at h1'; omega
    | cons x e1b =>
    obtain ⟨nm, sz⟩ := x
    subst hl1
    simp only [List.length_cons] at hdl1
    refine awp_skip ?_; refine awp_seq ?_; refine awp_block ?_
    refine (awp_draw TT_ok mixed p23_6 [16, 18] (fun _ => true) (by kernel_rfl) fun pan K hp hK => ?_)
    refine And.intro (by omega) (Exists.intro _ (And.intro (ars_at rfl) ?_))
    refine And.intro (by omega) (Exists.intro _ (And.intro (ars_at rfl) ?_))
    refine And.intro (And.intro ((by simp only [ars, List.length_map, chunk_length]; omega)) ((by simp only [ars, List.length_map, chunk_length, maxLen]; omega))) ?_
    refine hK _ ?_; clear hK hp K pan; refine awp_norm [1, 2, 3, 4] rfl rfl ?_; refine rgn fun pan K hp hK => ?_; refine hK _ ?_; clear hK hp K pan
    exact ⟨_, Nat.lt_succ_self _, _, sub_pick (L := [0, 1, 2, 3, 4, 5]) (slots := [1, 2, 3, 4]) rfl rfl rfl rfl rfl, d1 ++ [⟨nm, sz⟩], e1b, rfl, by simp, by rw [← ars_snoc, List.length_append, wrapId (by omega) (by omega)]; rfl⟩
  have h1' := of_decide_eq_false h1
  rw [hll1] at h1'
  obtain rfl : e1 = [] := List.eq_nil_of_length_eq_zero (by omega)
  rw [List.append_nil] at hl1
  subst hl1
  refine awp_exit ?_
  refine awp_norm [1, 2, 3] rfl rfl ?_; refine awp_seq ?_; refine awp_seq ?_; refine rgn fun pan K hp hK => ?_; refine hK _ ?_; clear hK hp K pan; refine awp_norm [1, 2, 3, 5] rfl rfl ?_; refine awp_block ?_
  refine awp_loop (fun k Y => ∃ (d2 e2 : List Pc), k = e2.length ∧ procs = d2 ++ e2 ∧ Y = ⟨[(1, .box 0 0), (2, .box 1 0), (3, .box 2 0), (5, .d (num d2.length))], [.box 37 [.d (.sl 1 (strs vars)), .d (.sl 2 (ars arrays)), .d (.sl 7 (pcs procs)), .d (.sl 7 (sms main))], .box 28 [.d (.s (.slice none 0 0)), .d (.s (.slice none 0 0)), .d (.s (.slice none 0 0)), .d (.s (.slice none 0 0))], .box 28 [.acc 3, .acc 4, .acc 5, .d (.sl 7 (sms main))], .acc 9 1 (strs vars), .acc 169 2 (ars arrays), .acc 159 7 (pcs d2)]⟩) (procs.length) (⟨[], procs, rfl, rfl, rfl⟩) ?_
  rintro k Y ⟨d2, e2, rfl, hl2, rfl⟩
  have hll2 : (pcs procs).length = d2.length + e2.length := by rw [pcs, List.length_map, hl2, List.length_append]
  have hdl2 : d2.length + e2.length ≤ 1073741824 := by rw [hl2, List.length_append] at hb2; exact hb2
  refine awp_seq ?_; refine awp_seq ?_; refine rgn fun pan K hp hK => ?_; refine hK _ ?_; clear hK hp K pan; refine awp_norm [1, 2, 3, 5, 46] rfl rfl ?_
  refine awp_cond2 rfl (onB_intro (fun h2 => ?_) (fun h2 => ?_))
  · have h2' := of_decide_eq_true h2
    rw [hll2] at h2'
    cases e2 with
    | nil => simp only [List.length_nil] at h2'; omega
    | cons x e2b =>
    obtain ⟨nm, ps, bd, rt⟩ := x
    obtain ⟨p1, n1, m1, l1⟩ := rt
    subst hl2
    simp only [List.length_cons] at hdl2
    have hpx := wtP_app d2 (⟨nm, ps, bd, .mk p1 n1 m1 l1⟩ :: e2b)
    simp only [wtP] at hpx
    have hpl := wtV_len ps
    refine awp_skip ?_; refine awp_seq ?_; refine awp_block ?_
    refine awp_cut (fun Z => Z = ⟨[(1, .box 0 0), (2, .box 1 0), (3, .box 2 0), (5, .d (num d2.length)), (6, .box 6 0)], [.box 37 [.d (.sl 1 (strs vars)), .d (.sl 2 (ars arrays)), .d (.sl 7 (pcs (d2 ++ ⟨nm, ps, bd, .mk p1 n1 m1 l1⟩ :: e2b))), .d (.sl 7 (sms main))], .box 28 [.d (.s (.slice none 0 0)), .d (.s (.slice none 0 0)), .d (.s (.slice none 0 0)), .d (.s (.slice none 0 0))], .box 28 [.acc 3, .acc 4, .acc 5, .d (.sl 7 (sms main))], .acc 9 1 (strs vars), .acc 169 2 (ars arrays), .acc 159 7 (pcs d2), .box 159 [.d (str nm), .d (.s (.slice none 0 0)), .d (.sl 7 (sms bd)), .d (str p1), .d (num n1), .d (str m1), .d (.sl 4 (exs l1))]]⟩) ?_ ?_
    · refine (awp_draw TT_ok mixed p23_10 [22] (fun i => Nat.beq i 0) (by kernel_rfl) fun pan K hp hK => ?_)
      refine And.intro (by omega) (Exists.intro _ (And.intro (pcs_at rfl) ?_))
      refine And.intro (by omega) (Exists.intro _ (And.intro (pcs_at rfl) ?_))
      refine And.intro (by omega) (Exists.intro _ (And.intro (pcs_at rfl) ?_))
      refine And.intro ?_ ?_
      · show aCall _ _ _ _ _ _ _
        refine aCall_ret (L := []) rfl rfl rfl (stmtsOf_all G bd (by omega)) rfl rfl rfl rfl ?_
        refine And.intro ?_ ?_
        · show aCall _ _ _ _ _ _ _
          refine aCall_ret (L := []) rfl rfl rfl (exprOf_spec G (.mk p1 n1 m1 l1) (by omega)) rfl rfl rfl rfl ?_
          refine And.intro ?_ ?_
          · refine hK _ ?_; clear hK hp K pan
            exact ⟨_, sub_norm (slots := [1, 2, 3, 5, 6]) rfl rfl, rfl⟩
          refine And.intro ?_ ?_
          · refine hK _ ?_; clear hK hp K pan
            exact ⟨_, sub_norm (slots := [1, 2, 3, 5, 6]) rfl rfl, rfl⟩
          trivial
        refine And.intro ?_ ?_
        · show aCall _ _ _ _ _ _ _
          refine aCall_ret (L := []) rfl rfl rfl (exprOf_spec G (.mk p1 n1 m1 l1) (by omega)) rfl rfl rfl rfl ?_
          refine hK _ ?_; clear hK hp K pan
          exact ⟨_, sub_norm (slots := [1, 2, 3, 5, 6]) rfl rfl, rfl⟩
        trivial
      refine And.intro ?_ ?_
      · show aCall _ _ _ _ _ _ _
        refine aCall_ret (L := []) rfl rfl rfl (stmtsOf_all G bd (by omega)) rfl rfl rfl rfl ?_
        show aCall _ _ _ _ _ _ _
        refine aCall_ret (L := []) rfl rfl rfl (exprOf_spec G (.mk p1 n1 m1 l1) (by omega)) rfl rfl rfl rfl ?_
        refine hK _ ?_; clear hK hp K pan
        exact ⟨_, sub_norm (slots := [1, 2, 3, 5, 6]) rfl rfl, rfl⟩
      trivial
    rintro Z rfl
    refine awp_accCell 6 1 9 1 rfl rfl rfl rfl ?_
    refine awp_norm [1, 2, 3, 5, 6] rfl rfl ?_; refine awp_seq ?_
    refine (awp_draw TT_ok mixed p23_11 [8, 10] (fun _ => true) (by kernel_rfl) fun pan K hp hK => ?_)
    refine And.intro (by omega) (Exists.intro _ (And.intro (pcs_at rfl) ?_))
    refine And.intro (And.intro ((by simp only [strs_length, List.length_nil]; omega)) ((by simp only [strs_length, List.length_nil, maxLen]; omega))) ?_
    refine hK _ ?_; clear hK hp K pan; refine awp_norm [1, 2, 3, 5, 6] rfl rfl ?_; refine rgn fun pan K hp hK => ?_
    refine And.intro (And.intro ((by simp only [pcs, List.length_map, chunk_length]; omega)) ((by simp only [pcs, List.length_map, chunk_length, maxLen]; omega))) ?_
    refine hK _ ?_; clear hK hp K pan; refine awp_norm [1, 2, 3, 5] rfl rfl ?_; refine rgn fun pan K hp hK => ?_; refine hK _ ?_; clear hK hp K pan
    exact ⟨_, Nat.lt_succ_self _, _, sub_pick (L := [0, 1, 2, 3, 4, 5]) (slots := [1, 2, 3, 5]) rfl rfl rfl rfl rfl, d2 ++ [⟨nm, ps, bd, .mk p1 n1 m1 l1⟩], e2b, rfl, by simp, by rw [← pcs_snoc, List.length_append, wrapId (by omega) (by omega)]; rfl⟩
  have h2' := of_decide_eq_false h2
  rw [hll2] at h2'
  obtain rfl : e2 = [] := List.eq_nil_of_length_eq_zero (by omega)
  rw [List.append_nil] at hl2
  subst hl2
  refine awp_exit ?_
  refine awp_norm [2, 3] rfl rfl ?_; refine awp_seq ?_; refine rgn fun pan K hp hK => ?_; refine hK _ ?_; clear hK hp K pan; refine awp_norm [2] rfl rfl ?_; refine awp_ret ?_
  exact ⟨_, [], _, [encP ⟨vars, arrays, procs, main⟩], rfl, rfl, rfl, rfl, rfl, PWs.refl _, rfl⟩
end Go.Abs
end
section
namespace Go.Abs
open Go Go.Proofs
theorem beq_toList (a b : ByteArray) : (a.toList == b.toList) = decide (a = b) := by
  by_cases h : a = b
  · subst h; simp
  rw [decide_eq_false h, beq_eq_false_iff_ne]
  intro q
  apply h
  rw [ByteArray.toList_eq, ByteArray.toList_eq] at q
  apply ByteArray.ext
  exact Array.ext' q
theorem beq_bytes (a b : ByteArray) : (a == b) = decide (a = b) := by
  obtain ⟨a⟩ := a
  obtain ⟨b⟩ := b
  show (a == b) = _
  by_cases h : a = b
  · subst h; simp
  have h2 : ¬ (⟨a⟩ : ByteArray) = ⟨b⟩ := fun q => h (by injection q)
  rw [decide_eq_false h2, beq_eq_false_iff_ne]
  exact h
theorem get_put : ∀ (m : List (ByteArray × Data)) (w s : ByteArray) (p : Data), (mapGet (mapPut m w p) s).isSome = ((mapGet m s).isSome || decide (w = s))
  | [], w, s, p => by
    simp only [mapPut, mapGet, beq_bytes]
    by_cases h : s = w
    · rw [decide_eq_true h, decide_eq_true h.symm]; rfl
    rw [decide_eq_false h, decide_eq_false (fun q => h q.symm)]; rfl
  | (k, q) :: r, w, s, p => by
    simp only [mapPut, beq_bytes]
    by_cases h : w = k
    · subst h
      rw [decide_eq_true rfl]
      simp only [mapGet, beq_bytes]
      by_cases h : s = w
      · rw [decide_eq_true h, decide_eq_true h.symm]; rfl
      rw [decide_eq_false h, decide_eq_false (fun q => h q.symm)]; simp
    rw [decide_eq_false h]
    simp only [mapGet, beq_bytes]
    by_cases h2 : s = k
    · rw [decide_eq_true h2]; rfl
    rw [decide_eq_false h2]; exact get_put r w s p
theorem fold_put (s : ByteArray) : ∀ (l : List ByteArray) (m : List (ByteArray × Data)), (mapGet (l.foldl (fun m w => mapPut m w tt) m) s).isSome = ((mapGet m s).isSome || hasF s l)
  | [], m => by simp [hasF]
  | x :: r, m => by
    rw [List.foldl_cons, fold_put s r, get_put]
    simp only [hasF, beq_toList]
    cases decide (x = s) <;> simp
theorem isRes_eq (s : ByteArray) : isRes s = hasF s resW := by
  unfold isRes mapL
  rw [fold_put]
  rfl
theorem nameG_eq (s : ByteArray) : isNameG s = isNameF s := by
  unfold isNameG isNameF
  rw [isRes_eq]
  have : (!(s.toList == (⟨#[]⟩ : ByteArray).toList)) = decide ((s.size : Int) > 0) := by
    rw [beq_toList]
    by_cases h : s = ⟨#[]⟩
    · subst h; rfl
    rw [decide_eq_false h, decide_eq_true]
    · rfl
    rcases Nat.eq_zero_or_pos s.size with q | q
    · exact absurd (ByteArray.ext (Array.eq_empty_of_size_eq_zero q)) h
    omega
  rw [this]
  rfl
theorem relG_eq (s : ByteArray) : isRelG s = isRelF s := by
  unfold isRelG relW isRelF
  simp only [hasF, beq_toList]
  simp only [eq_comm (b := s)]
  repeat' split
  all_goals simp_all
theorem op_num {op : ByteArray} (h : (op.toList == (⟨#[110, 117, 109]⟩ : ByteArray).toList) = true) : (op.toList == (⟨#[110, 117, 109]⟩ : ByteArray).toList) = true ∧ (op.toList == (⟨#[118, 97, 114]⟩ : ByteArray).toList) = false ∧ (op.toList == (⟨#[97, 116]⟩ : ByteArray).toList) = false ∧ (op.toList == (⟨#[110, 101, 103]⟩ : ByteArray).toList) = false ∧ rankF op = 3 ∧ binF op = false := by
  rw [beq_toList] at h
  have h := of_decide_eq_true h
  subst h
  refine ⟨?_, ?_, ?_, ?_, ?_, ?_⟩ <;> kernel_rfl
theorem op_var {op : ByteArray} (h : (op.toList == (⟨#[118, 97, 114]⟩ : ByteArray).toList) = true) : (op.toList == (⟨#[110, 117, 109]⟩ : ByteArray).toList) = false ∧ (op.toList == (⟨#[118, 97, 114]⟩ : ByteArray).toList) = true ∧ (op.toList == (⟨#[97, 116]⟩ : ByteArray).toList) = false ∧ (op.toList == (⟨#[110, 101, 103]⟩ : ByteArray).toList) = false ∧ rankF op = 3 ∧ binF op = false := by
  rw [beq_toList] at h
  have h := of_decide_eq_true h
  subst h
  refine ⟨?_, ?_, ?_, ?_, ?_, ?_⟩ <;> kernel_rfl
theorem op_at {op : ByteArray} (h : (op.toList == (⟨#[97, 116]⟩ : ByteArray).toList) = true) : (op.toList == (⟨#[110, 117, 109]⟩ : ByteArray).toList) = false ∧ (op.toList == (⟨#[118, 97, 114]⟩ : ByteArray).toList) = false ∧ (op.toList == (⟨#[97, 116]⟩ : ByteArray).toList) = true ∧ (op.toList == (⟨#[110, 101, 103]⟩ : ByteArray).toList) = false ∧ rankF op = 3 ∧ binF op = false := by
  rw [beq_toList] at h
  have h := of_decide_eq_true h
  subst h
  refine ⟨?_, ?_, ?_, ?_, ?_, ?_⟩ <;> kernel_rfl
theorem op_neg {op : ByteArray} (h : (op.toList == (⟨#[110, 101, 103]⟩ : ByteArray).toList) = true) : (op.toList == (⟨#[110, 117, 109]⟩ : ByteArray).toList) = false ∧ (op.toList == (⟨#[118, 97, 114]⟩ : ByteArray).toList) = false ∧ (op.toList == (⟨#[97, 116]⟩ : ByteArray).toList) = false ∧ (op.toList == (⟨#[110, 101, 103]⟩ : ByteArray).toList) = true ∧ rankF op = 3 ∧ binF op = false := by
  rw [beq_toList] at h
  have h := of_decide_eq_true h
  subst h
  refine ⟨?_, ?_, ?_, ?_, ?_, ?_⟩ <;> kernel_rfl
theorem op_bin {op : ByteArray} (h : binF op = true) : ((op.toList == (⟨#[110, 117, 109]⟩ : ByteArray).toList) = false ∧ (op.toList == (⟨#[118, 97, 114]⟩ : ByteArray).toList) = false ∧ (op.toList == (⟨#[97, 116]⟩ : ByteArray).toList) = false ∧ (op.toList == (⟨#[110, 101, 103]⟩ : ByteArray).toList) = false) ∧ (rankF op == 3) = false := by
  unfold binF at h
  simp only [Bool.or_eq_true, beq_toList, decide_eq_true_eq] at h
  rcases h with (((rfl | rfl) | rfl) | rfl) | rfl <;> (refine ⟨⟨?_, ?_, ?_, ?_⟩, ?_⟩ <;> kernel_rfl)
theorem op_none {op : ByteArray} (h : binF op = false) : rankF op = 3 := by
  unfold binF at h
  unfold rankF
  simp only [Bool.or_eq_false_iff] at h
  simp only [h, Bool.or_self]
/-- What the reference comes to at a text. -/
structure GR (x : TIs) (m : Nat) (r : GT) : Prop where
  ex : ∃ s b, r = some (s, b) ∧ s.size ≤ m ∧ (b = true → ∃ k, x = some (s, k)) ∧ (∀ t k, x = some (t, k) → t.size ≤ 4000 → b = true)
theorem fitG_small {a : ByteArray} {b : Bool} (h : a.size ≤ 1073741824) : fitG a b = some (a, b) := by
  unfold fitG chkS
  rw [decide_eq_true h]
theorem GR.no {x : TIs} {m : Nat} (h : ∀ t k, x = some (t, k) → 4000 < t.size) : GR x m (some (⟨#[]⟩, false)) :=
  ⟨⟨_, _, rfl, Nat.zero_le _, fun q => Bool.noConfusion q, fun t k e q => by have := h t k e; omega⟩⟩
theorem GR.nil {m : Nat} : GR Option.none m (some (⟨#[]⟩, false)) := GR.no (fun t k e => by cases e)
theorem GR.fit {x : TIs} {m : Nat} {s : ByteArray} {b : Bool} (hs : s.size ≤ m) (hm : m ≤ 1073741824) (h1 : b = true → ∃ k, x = some (s, k)) (h2 : ∀ t k, x = some (t, k) → t.size ≤ 4000 → b = true) : GR x m (fitG s b) :=
  ⟨⟨s, b, fitG_small (by omega), hs, h1, h2⟩⟩
def bdG (g : ByteArray → ByteArray) (r : GT) : GT := match r with
  | some (s, ok) => fitG (g s) ok
  | none => none
theorem GR.wrap {x : TIs} {m m' j : Nat} {r : GT} (g : ByteArray → ByteArray) (c : Nat) (h : GR x m r) (hg : ∀ s, s.size ≤ (g s).size ∧ (g s).size ≤ s.size + c) (hm : m + c ≤ m') (hm' : m' ≤ 1073741824) : GR (x.map fun y => (g y.1, y.2 + j)) m' (bdG g r) := by
  obtain ⟨s, b, rfl, h1, h2, h3⟩ := h.ex
  have := hg s
  refine GR.fit (by omega) hm' (fun q => ?_) (fun t k e ht => ?_)
  · obtain ⟨k, rfl⟩ := h2 q
    exact ⟨k + j, rfl⟩
  obtain ⟨y, hy, e⟩ := Option.map_eq_some_iff.1 e
  have e1 : g y.1 = t := congrArg Prod.fst e
  subst e1
  have := hg y.1
  exact h3 y.1 y.2 hy (by omega)
def ExT (f : Nat) : Prop := ∀ (e : Ex) (least d : Int), fuE e + ovr (rankF e.op) least ≤ f → nmE e = true → wtE e ≤ 1000000000 → -1 ≤ d → d ≤ 100 → 1 ≤ least → GR (exprI e least d) (wtE e + 2 * ovr (rankF e.op) least) (exprG f e least d)
theorem nameG_emp {nm : ByteArray} (h : (nm.toList == (⟨#[]⟩ : ByteArray).toList) = true) : isNameF nm = false := by
  rw [beq_toList] at h
  have h := of_decide_eq_true h
  subst h
  cases q : isNameF ⟨#[]⟩ with
  | false => rfl
  | true => have := name_pos q; exact absurd this (by decide)
theorem bne_eq (a b : Int) : (a != b) = !(a == b) := rfl
theorem body_gr {f : Nat} (ih : ExT f) (op : ByteArray) (n : Int) (nm : ByteArray) (l : List Ex) (d : Int) (hf : fuE (.mk op n nm l) ≤ f + 1) (hnm : nmE (.mk op n nm l) = true) (hw : wtE (.mk op n nm l) ≤ 1000000000) (hd0 : -1 ≤ d) (hd : d ≤ 12) (least : Int) (hr : decide (rankF op < least) = false) :
    GR ((bodyI (.mk op n nm l) d).map fun x => (x.1, x.2 + 1)) (wtE (.mk op n nm l)) (exprG (f + 1) (.mk op n nm l) least d) := by
  simp only [fuE] at hf
  simp only [nmE, Bool.and_eq_true] at hnm
  simp only [wtE] at hw ⊢
  have hd1 : IntKind.i64.wrap (d + 1) = d + 1 := i64_id (by omega) (by omega)
  have hc : (chkS nm && chkS op && chkN n) = true := by
    rw [show chkS nm = true from decide_eq_true (by omega), show chkS op = true from decide_eq_true (by omega), hnm.1]
    rfl
  simp only [exprG, decide_eq_false (show ¬ d > 12 by omega), hr, hc, hd1]
  rw [bodyI.eq_def]
  dsimp only
  unfold badG namedG
  simp only [nameG_eq]
  cases k1 : (op.toList == (⟨#[110, 117, 109]⟩ : ByteArray).toList) with
  | true =>
    obtain ⟨_, e2, e3, e4, e5, e6⟩ := op_num k1
    simp only [e2, e3]
    cases hz : (nm.toList == (⟨#[]⟩ : ByteArray).toList) with
    | false =>
      simp
      exact GR.nil
    | true =>
      rw [nameG_emp hz]
      simp only [Bool.or_self, Bool.not_false, Bool.not_true, Bool.and_false, Bool.false_and, Bool.and_true, BEq.rfl]
      refine GR.fit (Nat.le_trans (itoaB_size hnm.1) (by omega)) (by omega) (fun q => ?_) (fun t k e ht => ?_)
      · simp only [Bool.and_eq_true] at q
        rw [q.1.2, q.2, q.1.1]
        exact ⟨_, rfl⟩
      cases h1 : decide (n ≥ 0) <;> cases h2 : decide (n ≤ 1099511627776) <;> cases h3 : (((exs l).length : Int) == 0) <;> simp [h1, h2, h3] at e ⊢
  | false =>
    simp only
    cases k2 : (op.toList == (⟨#[118, 97, 114]⟩ : ByteArray).toList) with
    | true =>
      obtain ⟨_, _, e3, e4, e5, e6⟩ := op_var k2
      simp only [Bool.true_or, Bool.not_true, Bool.false_and, Bool.or_false, Bool.not_false, Bool.true_and]
      cases hq : isNameF nm with
      | false =>
        simp
        exact GR.nil
      | true =>
        cases hn : (n == 0) with
        | false =>
          simp [bne_eq, hn]
          exact GR.nil
        | true =>
          simp only [bne_eq, hn, BEq.rfl, Bool.not_true, Bool.or_self, Bool.true_and, Bool.and_true]
          refine GR.fit (by omega) (by omega) (fun q => ?_) (fun t k e ht => ?_)
          · rw [q]
            exact ⟨_, rfl⟩
          cases h3 : (((exs l).length : Int) == 0) with
          | true => rfl
          | false => rw [h3] at e; cases e
    | false =>
      simp only
      cases k3 : (op.toList == (⟨#[97, 116]⟩ : ByteArray).toList) with
      | true =>
        obtain ⟨_, _, _, e4, e5, e6⟩ := op_at k3
        simp only [Bool.or_true, Bool.not_true, Bool.false_and, Bool.or_false, Bool.not_false, Bool.true_and, Bool.true_or]
        cases hq : isNameF nm with
        | false =>
          simp
          exact GR.nil
        | true =>
          cases hn : (n == 0) with
          | false =>
            simp [bne_eq, hn]
            exact GR.nil
          | true =>
            simp only [bne_eq, hn, BEq.rfl, Bool.not_true, Bool.or_self, Bool.true_and, Bool.and_true]
            cases h3 : (((exs l).length : Int) == 1) with
            | false => exact GR.nil
            | true =>
              obtain ⟨x, rfl⟩ := ex_one (c := true) (by simpa using h3)
              simp only [fu_one] at hf
              simp only [wt_one] at hw ⊢
              simp only [nmL, Bool.and_true] at hnm
              have hov := ovr_no (r := rankF x.op) (l := 1) (rankF_range _).1
              have hx := ih x 1 (d + 1) (by omega) hnm.2 (by omega) (by omega) (by omega) (by omega)
              simp only [Bool.not_true, map_map1 _ (fun s => ((nm ++ ⟨#[91]⟩) ++ s) ++ ⟨#[93]⟩)]
              exact GR.wrap (m' := 64 + op.size + nm.size + (wtE x + 2)) (fun s => ((nm ++ ⟨#[91]⟩) ++ s) ++ ⟨#[93]⟩) (nm.size + 2) hx (fun s => by simp only [sz2]; have e1 : (⟨#[91]⟩ : ByteArray).size = 1 := rfl; have e2 : (⟨#[93]⟩ : ByteArray).size = 1 := rfl; omega) (by omega) (by omega)
      | false =>
        simp only
        cases k4 : (op.toList == (⟨#[110, 101, 103]⟩ : ByteArray).toList) with
        | true =>
          obtain ⟨_, _, _, _, e5, e6⟩ := op_neg k4
          simp only [Bool.or_self, Bool.not_false, Bool.true_and, Bool.false_or]
          cases hz : (nm.toList == (⟨#[]⟩ : ByteArray).toList) with
          | false =>
            simp
            exact GR.nil
          | true =>
            rw [nameG_emp hz]
            cases hn : (n == 0) with
            | false =>
              simp [bne_eq, hn]
              exact GR.nil
            | true =>
              simp only [bne_eq, hn, BEq.rfl, Bool.not_true, Bool.or_self, Bool.true_and, Bool.and_true]
              cases h3 : (((exs l).length : Int) == 1) with
              | false => exact GR.nil
              | true =>
                obtain ⟨x, rfl⟩ := ex_one (c := true) (by simpa using h3)
                simp only [fu_one] at hf
                simp only [wt_one] at hw ⊢
                simp only [nmL, Bool.and_true] at hnm
                have hov := ovr_le (rankF x.op) 3
                have hx := ih x 3 (d + 1) (by omega) hnm.2 (by omega) (by omega) (by omega) (by omega)
                simp only [Bool.not_true, map_map1 _ (fun s => ⟨#[45]⟩ ++ s)]
                exact GR.wrap (m' := 64 + op.size + nm.size + (wtE x + 2)) (fun s => ⟨#[45]⟩ ++ s) 1 hx (fun s => by simp only [sz2]; have e1 : (⟨#[45]⟩ : ByteArray).size = 1 := rfl; omega) (by omega) (by omega)
        | false =>
          simp only [Bool.or_self, Bool.not_false, Bool.true_and]
          cases k5 : binF op with
          | false =>
            rw [op_none k5]
            simp only [Bool.false_and]
            split
            · exact GR.nil
            exact GR.nil
          | true =>
            have e5 := (op_bin k5).2
            cases hz : (nm.toList == (⟨#[]⟩ : ByteArray).toList) with
            | false =>
              simp
              exact GR.nil
            | true =>
              rw [nameG_emp hz]
              cases hn : (n == 0) with
              | false =>
                simp [bne_eq, hn]
                exact GR.nil
              | true =>
                simp only [bne_eq, hn, e5, BEq.rfl, Bool.not_true, Bool.or_self, Bool.true_and, Bool.and_true, Bool.false_or]
                cases h3 : (((exs l).length : Int) == 2) with
                | false => exact GR.nil
                | true =>
                  obtain ⟨x, y, rfl⟩ := ex_two (c := true) (by simpa using h3)
                  have hrk := rankF_range op
                  rw [show IntKind.i64.wrap (rankF op + 1) = rankF op + 1 from i64_id (by omega) (by omega)]
                  simp only [fu_two] at hf
                  simp only [wt_two] at hw ⊢
                  simp only [nmL, Bool.and_true, Bool.and_eq_true] at hnm
                  have hox := ovr_le (rankF x.op) (rankF op)
                  have hoy := ovr_le (rankF y.op) (rankF op + 1)
                  obtain ⟨a, ok, e, h1, h2, h4⟩ := (ih x (rankF op) d (by omega) hnm.2.1 (by omega) (by omega) (by omega) (by omega)).ex
                  obtain ⟨b, ok2, e', g1, g2, g4⟩ := (ih y (rankF op + 1) d (by omega) hnm.2.2 (by omega) (by omega) (by omega) (by omega)).ex
                  simp only [e, e', Bool.not_true]
                  have s32 : (⟨#[32]⟩ : ByteArray).size = 1 := rfl
                  show GR (Option.map (fun x => (x.1, x.2 + 1)) ((exprI x (rankF op) d).bind fun u => (exprI y (rankF op + 1) d).map fun v => ((((u.1 ++ ⟨#[32]⟩) ++ op) ++ ⟨#[32]⟩) ++ v.1, u.2 + v.2))) _ _
                  have inv : ∀ t k, Option.map (fun x => (x.1, x.2 + 1)) ((exprI x (rankF op) d).bind fun u => (exprI y (rankF op + 1) d).map fun v => ((((u.1 ++ ⟨#[32]⟩) ++ op) ++ ⟨#[32]⟩) ++ v.1, u.2 + v.2)) = some (t, k) → ∃ t1 k1 t2 k2, exprI x (rankF op) d = some (t1, k1) ∧ exprI y (rankF op + 1) d = some (t2, k2) ∧ t = (((t1 ++ ⟨#[32]⟩) ++ op) ++ ⟨#[32]⟩) ++ t2 := by
                    intro t k q
                    obtain ⟨z, hz, q⟩ := Option.map_eq_some_iff.1 q
                    obtain ⟨u, hu, hz⟩ := Option.bind_eq_some_iff.1 hz
                    obtain ⟨v, hv, hz⟩ := Option.map_eq_some_iff.1 hz
                    subst hz
                    simp only [Prod.mk.injEq] at q
                    exact ⟨u.1, u.2, v.1, v.2, hu, hv, q.1.symm⟩
                  cases ok with
                  | false =>
                    simp only [Bool.not_false, Bool.true_or]
                    refine GR.no (fun t k q => ?_)
                    obtain ⟨t1, k1, t2, k2, q1, q2, rfl⟩ := inv t k q
                    simp only [sz2]
                    rcases Nat.lt_or_ge 4000 t1.size with w | w
                    · omega
                    have := h4 t1 k1 q1 w; cases this
                  | true =>
                    obtain ⟨k1, q1⟩ := h2 rfl
                    by_cases hbig : ((a.size : Int) > 4000)
                    · simp only [decide_eq_true hbig, Bool.or_true]
                      refine GR.no (fun t k q => ?_)
                      obtain ⟨t1, k1', t2, k2, q1', q2, rfl⟩ := inv t k q
                      rw [q1] at q1'
                      simp only [Option.some.injEq, Prod.mk.injEq] at q1'
                      rw [← q1'.1]
                      simp only [sz2]
                      omega
                    simp only [decide_eq_false hbig, Bool.not_true, Bool.or_self]
                    refine GR.fit (by simp only [sz2]; omega) (by omega) (fun q => ?_) (fun t k q ht => ?_)
                    · obtain ⟨k2, q2⟩ := g2 q
                      rw [q1, q2]
                      exact ⟨_, rfl⟩
                    obtain ⟨t1, k1', t2, k2, q1', q2, rfl⟩ := inv t k q
                    simp only [sz2] at ht
                    exact g4 t2 k2 q2 (by omega)
theorem expr_gr : ∀ f, ExT f
  | 0 => by
    intro e least d hf
    obtain ⟨op, n, nm, l⟩ := e
    simp only [fuE] at hf
    omega
  | f + 1 => by
    intro e least d hf hnm hw hd0 hd hle
    have ih := expr_gr f
    obtain ⟨op, n, nm, l⟩ := e
    cases hd12 : decide (d ≤ 12) with
    | false =>
      have hd' := of_decide_eq_false hd12
      simp only [exprG, exprI, closeI, hd12, decide_eq_true (show d > 12 by omega)]
      exact GR.nil
    | true =>
      have hd' := of_decide_eq_true hd12
      have hop : (Ex.mk op n nm l).op = op := rfl
      rw [hop] at hf ⊢
      cases hr : decide (rankF op < least) with
      | false =>
        rw [rank_le hr] at hf ⊢
        have := body_gr ih op n nm l d (by omega) hnm hw hd0 hd' least hr
        have e : exprI (.mk op n nm l) least d = (bodyI (.mk op n nm l) d).map fun x => (x.1, x.2 + 1) := by simp only [exprI, closeI, hd12, hop, hr]
        rw [e]
        exact this
      | true =>
        have ho : ovr (rankF op) least = 1 := by unfold ovr; rw [hr]
        rw [ho] at hf ⊢
        have h1 := ovr_no (r := rankF op) (l := 1) (rankF_range _).1
        have hx := ih (.mk op n nm l) 1 (d + 1) (by rw [hop]; omega) hnm hw (by omega) (by omega) (by omega)
        rw [hop, h1] at hx
        simp only [exprG, decide_eq_false (show ¬ d > 12 by omega), hr]
        rw [i64_id (x := d + 1) (by omega) (by omega)]
        have := GR.wrap (j := 1) (m' := wtE (.mk op n nm l) + 2 * 1) (fun s => (⟨#[40]⟩ ++ s) ++ ⟨#[41]⟩) 2 hx (fun s => by simp only [sz2]; have e1 : (⟨#[40]⟩ : ByteArray).size = 1 := rfl; have e2 : (⟨#[41]⟩ : ByteArray).size = 1 := rfl; omega) (by omega) (by omega)
        have e : exprI (.mk op n nm l) least d = (exprI (.mk op n nm l) 1 (d + 1)).map fun y => ((⟨#[40]⟩ ++ y.1) ++ ⟨#[41]⟩, y.2 + 1) := by
          have h2 : decide (rankF op < 1) = false := decide_eq_false (by have := (rankF_range op).1; omega)
          simp only [exprI, closeI, hd12, hop, hr, h2]
          cases decide (d + 1 ≤ 12) with
          | true => cases bodyI (.mk op n nm l) (d + 1) <;> rfl
          | false => rfl
        rw [e]
        exact this
end Go.Abs
end
section
namespace Go.Abs
open Go Go.Proofs
def has {α : Type} (x : TM α) (a : α) : Prop := ∃ k, x = some (a, k)
theorem has_fun {α : Type} {x : TM α} {a b : α} (h : has x a) (k : has x b) : a = b := by
  obtain ⟨i, h⟩ := h
  obtain ⟨j, k⟩ := k
  rw [h] at k
  simp only [Option.some.injEq, Prod.mk.injEq] at k
  exact k.1
theorem has_bd {α β : Type} {x : TM α} {f : α → TM β} {b : β} : has (TM.bd x f) b ↔ ∃ a, has x a ∧ has (f a) b := by
  constructor
  · rintro ⟨j, h⟩
    obtain ⟨a, k, i, h1, h2, _⟩ := bd_some h
    exact ⟨a, ⟨k, h1⟩, ⟨i, h2⟩⟩
  rintro ⟨a, ⟨k, h1⟩, ⟨i, h2⟩⟩
  exact ⟨k + i, by simp only [TM.bd, h1, h2]⟩
theorem has_ret {α : Type} {a b : α} : has (TM.ret a) b ↔ b = a := by
  constructor
  · rintro ⟨j, h⟩; exact (ret_some h).1
  rintro rfl; exact ⟨0, rfl⟩
theorem has_grd {α : Type} {c : Bool} {x : TM α} {a : α} : has (TM.grd c x) a ↔ c = true ∧ has x a := by
  constructor
  · rintro ⟨j, h⟩; exact ⟨(grd_some h).1, j, (grd_some h).2⟩
  rintro ⟨rfl, h⟩; exact h
theorem has_sq {x y : TIs} {t : ByteArray} : has (sqI x y) t ↔ ∃ a b, has x a ∧ has y b ∧ t = a ++ b := by
  unfold sqI
  rw [has_bd]
  constructor
  · rintro ⟨a, h1, h2⟩
    obtain ⟨b, h3, h4⟩ := has_bd.1 h2
    exact ⟨a, b, h1, h3, has_ret.1 h4⟩
  rintro ⟨a, b, h1, h2, rfl⟩
  exact ⟨a, h1, has_bd.2 ⟨b, h2, has_ret.2 rfl⟩⟩
theorem has_none {α : Type} {a : α} : ¬ has (none : TM α) a := by rintro ⟨k, h⟩; cases h
structure GP (p : ByteArray → Prop) (m : Nat) (r : GT) : Prop where
  ex : ∃ s b, r = some (s, b) ∧ s.size ≤ m ∧ (b = true → p s) ∧ (∀ t, p t → t.size ≤ 4000 → b = true)
theorem GR.gp {x : TIs} {m : Nat} {r : GT} (h : GR x m r) : GP (has x) m r := by
  obtain ⟨s, b, h1, h2, h3, h4⟩ := h.ex
  exact ⟨⟨s, b, h1, h2, h3, fun t ⟨k, ht⟩ => h4 t k ht⟩⟩
theorem GP.no {p : ByteArray → Prop} {m : Nat} (h : ∀ t, p t → 4000 < t.size) : GP p m (some (⟨#[]⟩, false)) :=
  ⟨⟨_, _, rfl, Nat.zero_le _, fun q => Bool.noConfusion q, fun t e q => by have := h t e; omega⟩⟩
theorem GP.congr {p q : ByteArray → Prop} {m m' : Nat} {r : GT} (h : GP p m r) (hm : m ≤ m') (hp : ∀ t, p t ↔ q t) : GP q m' r := by
  obtain ⟨s, b, h1, h2, h3, h4⟩ := h.ex
  exact ⟨⟨s, b, h1, by omega, fun z => (hp s).1 (h3 z), fun t z => h4 t ((hp t).2 z)⟩⟩
theorem GP.fit {p : ByteArray → Prop} {m : Nat} {s : ByteArray} {b : Bool} (hs : s.size ≤ m) (hm : m ≤ 1073741824) (h1 : b = true → p s) (h2 : ∀ t, p t → t.size ≤ 4000 → b = true) : GP p m (fitG s b) :=
  ⟨⟨s, b, fitG_small (by omega), hs, h1, h2⟩⟩
theorem chkS_yes {a : ByteArray} (h : a.size ≤ 1073741824) : chkS a = true := decide_eq_true h
theorem join_snoc (sep x : List UInt8) : ∀ l : List (List UInt8), l ≠ [] → Lib.join (l ++ [x]) sep = Lib.join l sep ++ sep ++ x
  | [], h => absurd rfl h
  | [y], _ => by simp [Lib.join]
  | y :: z :: r, _ => by
    have := join_snoc sep x (z :: r) (by simp)
    simp only [Lib.join, List.cons_append, List.intercalate_cons_cons, List.append_assoc] at this ⊢
    rw [this]
theorem joinB_snoc (pr : List ByteArray) (s sep : ByteArray) : joinB (pr ++ [s]) sep = sepG pr.length (joinB pr sep) sep ++ s := by
  unfold sepG
  cases pr with
  | nil =>
    show (⟨(Lib.join [s.data.toList] sep.data.toList).toArray⟩ : ByteArray) = _
    have e : Lib.join [s.data.toList] sep.data.toList = s.data.toList := by simp [Lib.join]
    rw [e]
    apply ByteArray.ext
    rw [decide_eq_false (by simp)]
    simp only [ByteArray.data_append]
    show _ = (Lib.join [] _).toArray ++ _
    simp [Lib.join]
  | cons y r =>
    rw [decide_eq_true (by simp only [List.length_cons]; omega)]
    unfold joinB
    have e : ((y :: r) ++ [s]).map (fun x : ByteArray => x.data.toList) = (y :: r).map (fun x : ByteArray => x.data.toList) ++ [s.data.toList] := by simp
    rw [e, join_snoc _ _ _ (by simp)]
    apply ByteArray.ext
    simp only [ByteArray.data_append]
    simp
theorem joinB_nil (sep : ByteArray) : joinB [] sep = ⟨#[]⟩ := by
  unfold joinB
  simp [Lib.join]
theorem ssz_mem {c : Nat} {s : ByteArray} {l : List ByteArray} (h : s ∈ l) : s.size ≤ ssz c l := by
  induction l with
  | nil => cases h
  | cons x l ih =>
    simp only [ssz]
    rcases List.mem_cons.1 h with rfl | h
    · omega
    have := ih h; omega
theorem joinB_mem {s sep : ByteArray} {l : List ByteArray} (h : s ∈ l) : s.size ≤ (joinB l sep).size := Nat.le_trans (ssz_mem (c := 0) h) (joinB_ge l sep)
theorem expr_one (f : Nat) (e : Ex) (hf : fuE e ≤ f) (hn : nmE e = true) (hw : wtE e ≤ 1000000000) : GP (has (exprI e 1 1)) (wtE e) (exprG f e 1 1) := by
  have ho := ovr_no (r := rankF e.op) (l := 1) (rankF_range _).1
  have := (expr_gr f e 1 1 (by omega) hn hw (by omega) (by omega) (by omega)).gp
  rw [ho] at this
  exact this
theorem listG_gr (f : Nat) : ∀ (l : List Ex) (pr : List ByteArray), fuL l ≤ f → nmL l = true → wtL l + ssz 2 pr ≤ 1000000000 →
    GP (fun t => ∃ ss, has (listI l) ss ∧ t = joinB (pr ++ ss) ⟨#[44, 32]⟩) (wtL l + ssz 2 pr) (listG f l pr.length (joinB pr ⟨#[44, 32]⟩))
  | [], pr, _, _, _ => by
    have hs := joinB_size pr ⟨#[44, 32]⟩
    have e2 : (⟨#[44, 32]⟩ : ByteArray).size = 2 := rfl
    rw [e2] at hs
    simp only [listG]
    refine ⟨⟨_, _, rfl, by omega, fun _ => ⟨[], has_ret.2 rfl, by simp⟩, fun _ _ _ => rfl⟩⟩
  | e :: r, pr, hf, hn, hw => by
    simp only [fuL] at hf
    simp only [nmL, Bool.and_eq_true] at hn
    rw [wtL_cons] at hw ⊢
    obtain ⟨s, ok, e1, h1, h2, h3⟩ := (expr_one f e (by omega) hn.1 (by omega)).ex
    simp only [listG, e1]
    cases ok with
    | false =>
      refine GP.no (fun t ht => ?_)
      obtain ⟨ss, hss, rfl⟩ := ht
      simp only [listI] at hss
      obtain ⟨a, ha, hb⟩ := has_bd.1 hss
      obtain ⟨ss2, _, hb⟩ := has_bd.1 hb
      have hb := has_ret.1 hb
      subst hb
      have := joinB_mem (sep := ⟨#[44, 32]⟩) (l := pr ++ a :: ss2) (s := a) (by simp)
      rcases Nat.lt_or_ge 4000 a.size with w | w
      · omega
      have := h3 a ha w; cases this
    | true =>
      simp only [Bool.not_true]
      rw [← joinB_snoc]
      have hs := joinB_size (pr ++ [s]) ⟨#[44, 32]⟩
      have e2 : (⟨#[44, 32]⟩ : ByteArray).size = 2 := rfl
      rw [e2] at hs
      have hz : ssz 2 (pr ++ [s]) ≤ ssz 2 pr + (wtE e + 2) := by rw [ssz_append]; simp only [ssz]; omega
      rw [chkS_yes (by omega)]
      have ih := listG_gr f r (pr ++ [s]) (by omega) hn.2 (by omega)
      rw [List.length_append] at ih
      refine ih.congr (by omega) (fun t => ?_)
      have hse := h2 rfl
      constructor
      · rintro ⟨ss, hss, rfl⟩
        exact ⟨s :: ss, has_bd.2 ⟨s, hse, has_bd.2 ⟨ss, hss, has_ret.2 rfl⟩⟩, by simp⟩
      rintro ⟨ss, hss, rfl⟩
      simp only [listI] at hss
      obtain ⟨a, ha, hb⟩ := has_bd.1 hss
      obtain ⟨ss2, h4, hb⟩ := has_bd.1 hb
      have hb := has_ret.1 hb
      subst hb
      have := has_fun ha hse
      subst this
      exact ⟨ss2, h4, by simp⟩
theorem listJ_gr (f : Nat) (l : List Ex) (hf : fuL l ≤ f) (hn : nmL l = true) (hw : wtL l ≤ 1000000000) : GP (has (listJ l)) (wtL l) (listG f l 0 ⟨#[]⟩) := by
  have h := listG_gr f l [] hf hn (by simp only [ssz]; omega)
  rw [joinB_nil] at h
  refine h.congr (by simp only [ssz]; omega) (fun t => ?_)
  unfold listJ
  rw [has_bd]
  constructor
  · rintro ⟨ss, h1, rfl⟩; exact ⟨ss, h1, has_ret.2 rfl⟩
  rintro ⟨ss, h1, h2⟩; exact ⟨ss, h1, has_ret.1 h2⟩
theorem sep_app (R a sep s : ByteArray) (i : Nat) : sepG i (R ++ a) sep ++ s = R ++ (sepG i a sep ++ s) := by
  unfold sepG
  split <;> simp only [ByteArray.append_assoc]
theorem testI_has {t : Ts} {x : ByteArray} : has (testI t) x ↔ isRelF t.rel = true ∧ ∃ a b, has (exprI t.a 1 1) a ∧ has (exprI t.b 1 1) b ∧ x = (((a ++ ⟨#[32]⟩) ++ t.rel) ++ ⟨#[32]⟩) ++ b := by
  unfold testI
  rw [has_grd, has_bd]
  constructor
  · rintro ⟨h, a, ha, hb⟩
    obtain ⟨b, hb, hc⟩ := has_bd.1 hb
    exact ⟨h, a, b, ha, hb, has_ret.1 hc⟩
  rintro ⟨h, a, b, ha, hb, rfl⟩
  exact ⟨h, a, ha, has_bd.2 ⟨b, hb, has_ret.2 rfl⟩⟩
/-- The tests of a row, behind R. -/
theorem andG_gr (f : Nat) (R : ByteArray) : ∀ (l : List Ts) (pr : List ByteArray), fuR l ≤ f → nmR l = true → wtR l + ssz 5 pr + R.size ≤ 1000000000 →
    ∃ o, andG f l pr.length (R ++ joinB pr ⟨#[32, 97, 110, 100, 32]⟩) = some o ∧ (o = none → ∀ ss, has (andI l) ss → 4000 < (joinB (pr ++ ss) ⟨#[32, 97, 110, 100, 32]⟩).size) ∧
      (∀ acc, o = some acc → ∃ ss, has (andI l) ss ∧ acc = R ++ joinB (pr ++ ss) ⟨#[32, 97, 110, 100, 32]⟩ ∧ ssz 5 (pr ++ ss) ≤ wtR l + ssz 5 pr)
  | [], pr, _, _, hw => by
    simp only [andG]
    refine ⟨_, rfl, fun q => (by cases q), fun acc q => ⟨[], has_ret.2 rfl, ?_, by simp⟩⟩
    simp only [Option.some.injEq] at q
    rw [← q]
    simp
  | t :: r, pr, hf, hn, hw => by
    simp only [fuR, fuT] at hf
    simp only [nmR, nmT, Bool.and_eq_true] at hn
    simp only [wtR, wtT] at hw ⊢
    obtain ⟨a, ok, e1, h1, h2, h3⟩ := (expr_one f t.a (by omega) hn.1.1 (by omega)).ex
    obtain ⟨b, ok2, e2, g1, g2, g3⟩ := (expr_one f t.b (by omega) hn.1.2 (by omega)).ex
    simp only [andG, e1, e2, relG_eq]
    have s32 : (⟨#[32]⟩ : ByteArray).size = 1 := rfl
    cases hb : (((!ok) || (!ok2)) || (!isRelF t.rel)) with
    | true =>
      refine ⟨none, rfl, fun _ ss hss => ?_, fun acc q => by cases q⟩
      simp only [andI] at hss
      obtain ⟨x, hx, hss⟩ := has_bd.1 hss
      obtain ⟨ss2, _, hss⟩ := has_bd.1 hss
      have hss := has_ret.1 hss
      subst hss
      obtain ⟨hr, a', b', ha, hb', rfl⟩ := testI_has.1 hx
      have := joinB_mem (sep := ⟨#[32, 97, 110, 100, 32]⟩) (l := pr ++ ((((a' ++ ⟨#[32]⟩) ++ t.rel) ++ ⟨#[32]⟩) ++ b') :: ss2) (s := (((a' ++ ⟨#[32]⟩) ++ t.rel) ++ ⟨#[32]⟩) ++ b') (by simp)
      simp only [sz2] at this
      rcases Nat.lt_or_ge 4000 a'.size with w | w
      · omega
      rcases Nat.lt_or_ge 4000 b'.size with w2 | w2
      · omega
      have q1 := h3 a' ha w
      have q2 := g3 b' hb' w2
      rw [q1, q2, hr] at hb
      cases hb
    | false =>
      simp only [Bool.or_eq_false_iff, Bool.not_eq_false'] at hb
      obtain ⟨⟨q1, q2⟩, q3⟩ := hb
      have ha := h2 q1
      have hb' := g2 q2
      have hx : has (testI t) ((((a ++ ⟨#[32]⟩) ++ t.rel) ++ ⟨#[32]⟩) ++ b) := testI_has.2 ⟨q3, a, b, ha, hb', rfl⟩
      have ec : ((((sepG pr.length (R ++ joinB pr ⟨#[32, 97, 110, 100, 32]⟩) ⟨#[32, 97, 110, 100, 32]⟩ ++ a) ++ ⟨#[32]⟩) ++ t.rel ++ ⟨#[32]⟩) ++ b) = R ++ joinB (pr ++ [(((a ++ ⟨#[32]⟩) ++ t.rel) ++ ⟨#[32]⟩) ++ b]) ⟨#[32, 97, 110, 100, 32]⟩ := by
        rw [joinB_snoc, ← sep_app]
        simp only [ByteArray.append_assoc]
      rw [ec]
      have hs := joinB_size (pr ++ [(((a ++ ⟨#[32]⟩) ++ t.rel) ++ ⟨#[32]⟩) ++ b]) ⟨#[32, 97, 110, 100, 32]⟩
      have e5 : (⟨#[32, 97, 110, 100, 32]⟩ : ByteArray).size = 5 := rfl
      rw [e5] at hs
      have hz : ssz 5 (pr ++ [(((a ++ ⟨#[32]⟩) ++ t.rel) ++ ⟨#[32]⟩) ++ b]) ≤ ssz 5 pr + (wtE t.a + wtE t.b + t.rel.size + 10 + 5) := by
        rw [ssz_append]
        simp only [ssz, sz2]
        omega
      rw [chkS_yes (by rw [sz2]; omega)]
      obtain ⟨o, e3, h4, h5⟩ := andG_gr f R r (pr ++ [(((a ++ ⟨#[32]⟩) ++ t.rel) ++ ⟨#[32]⟩) ++ b]) (by omega) hn.2 (by omega)
      rw [List.length_append] at e3
      refine ⟨o, e3, fun q ss hss => ?_, fun acc q => ?_⟩
      · simp only [andI] at hss
        obtain ⟨x, hx2, hss⟩ := has_bd.1 hss
        obtain ⟨ss2, h6, hss⟩ := has_bd.1 hss
        have hss := has_ret.1 hss
        subst hss
        have := has_fun hx2 hx
        subst this
        have := h4 q ss2 h6
        simpa using this
      obtain ⟨ss, h6, rfl, h7⟩ := h5 acc q
      exact ⟨_ :: ss, has_bd.2 ⟨_, hx, has_bd.2 ⟨ss, h6, has_ret.2 rfl⟩⟩, by simp, by simp only [List.append_assoc, List.singleton_append] at h7; omega⟩
theorem andI_len : ∀ (l : List Ts) (ss : List ByteArray), has (andI l) ss → ss.length = l.length
  | [], ss, h => by rw [has_ret.1 h]; rfl
  | t :: r, ss, h => by
    simp only [andI] at h
    obtain ⟨x, _, h⟩ := has_bd.1 h
    obtain ⟨ss2, h6, h⟩ := has_bd.1 h
    rw [has_ret.1 h]
    simp only [List.length_cons, andI_len r ss2 h6]
theorem rowI_has {r : List Ts} {x : ByteArray} : has (rowI r) x ↔ ∃ ss, has (andI r) ss ∧ x = joinB (nz ss) ⟨#[32, 97, 110, 100, 32]⟩ := by
  unfold rowI
  rw [has_bd]
  constructor
  · rintro ⟨ss, h1, h2⟩; exact ⟨ss, h1, has_ret.1 h2⟩
  rintro ⟨ss, h1, rfl⟩; exact ⟨ss, h1, has_ret.2 rfl⟩
theorem nz_cons {l : List ByteArray} (h : l.length ≠ 0) : nz l = l := by
  cases l with
  | nil => exact absurd rfl h
  | cons x r => rfl
/-- A row, behind R. -/
theorem row_gr (f : Nat) (R : ByteArray) (r : List Ts) (hf : fuR r ≤ f) (hn : nmR r = true) (hw : wtR r + R.size ≤ 1000000000) :
    ∃ o, andG f r 0 (trueG r R) = some o ∧ (o = none → ∀ t, has (rowI r) t → 4000 < t.size) ∧ (∀ acc, o = some acc → ∃ t, has (rowI r) t ∧ acc = R ++ t ∧ t.size ≤ wtR r) ∧ (trueG r R).size ≤ R.size + 4 := by
  have t4 : (⟨#[116, 114, 117, 101]⟩ : ByteArray).size = 4 := rfl
  cases r with
  | nil =>
    have e : trueG [] R = R ++ ⟨#[116, 114, 117, 101]⟩ := rfl
    rw [e]
    refine ⟨some (R ++ ⟨#[116, 114, 117, 101]⟩), rfl, fun q => (by cases q), fun acc q => ⟨⟨#[116, 114, 117, 101]⟩, rowI_has.2 ⟨[], has_ret.2 rfl, ?_⟩, ?_, ?_⟩, ?_⟩
    · simp [nz, joinB, Lib.join]
    · simp only [Option.some.injEq] at q; exact q.symm
    · have := wtR_ge []; omega
    rw [sz2]; omega
  | cons t r =>
    have e : trueG (t :: r) R = R := by
      unfold trueG
      have : (((tss (t :: r)).length : Int) == 0) = false := by rw [beq_eq_false_iff_ne]; simp only [tss, List.length_map, List.length_cons]; omega
      rw [this]
    rw [e]
    obtain ⟨o, h1, h2, h3⟩ := andG_gr f R (t :: r) [] hf hn (by simp only [ssz]; omega)
    rw [joinB_nil] at h1
    have e0 : R ++ ⟨#[]⟩ = R := by apply ByteArray.ext; simp
    rw [e0] at h1
    refine ⟨o, h1, fun q t' ht => ?_, fun acc q => ?_, by omega⟩
    · obtain ⟨ss, hss, rfl⟩ := rowI_has.1 ht
      have := andI_len _ _ hss
      rw [nz_cons (by rw [this]; simp)]
      exact h2 q ss hss
    obtain ⟨ss, hss, rfl, hz⟩ := h3 acc q
    have hl := andI_len _ _ hss
    refine ⟨joinB ss ⟨#[32, 97, 110, 100, 32]⟩, rowI_has.2 ⟨ss, hss, by rw [nz_cons (by rw [hl]; simp)]⟩, rfl, ?_⟩
    have hs := joinB_size ss ⟨#[32, 97, 110, 100, 32]⟩
    have e5 : (⟨#[32, 97, 110, 100, 32]⟩ : ByteArray).size = 5 := rfl
    rw [e5] at hs
    simp only [List.nil_append, ssz] at hz
    omega
theorem orG_gr (f : Nat) : ∀ (l : List (List Ts)) (pr : List ByteArray), fuC l ≤ f → nmC l = true → wtC l + ssz 4 pr ≤ 1000000000 →
    GP (fun t => ∃ ss, has (orI l) ss ∧ t = joinB (pr ++ ss) ⟨#[32, 111, 114, 32]⟩) (wtC l + ssz 4 pr) (orG f l pr.length (joinB pr ⟨#[32, 111, 114, 32]⟩))
  | [], pr, _, _, _ => by
    have hs := joinB_size pr ⟨#[32, 111, 114, 32]⟩
    have e2 : (⟨#[32, 111, 114, 32]⟩ : ByteArray).size = 4 := rfl
    rw [e2] at hs
    simp only [orG]
    refine ⟨⟨_, _, rfl, by omega, fun _ => ⟨[], has_ret.2 rfl, by simp⟩, fun _ _ _ => rfl⟩⟩
  | t :: r, pr, hf, hn, hw => by
    simp only [fuC] at hf
    simp only [nmC, Bool.and_eq_true] at hn
    simp only [wtC] at hw ⊢
    have hs0 := joinB_size pr ⟨#[32, 111, 114, 32]⟩
    have e4 : (⟨#[32, 111, 114, 32]⟩ : ByteArray).size = 4 := rfl
    rw [e4] at hs0
    have hs1 := sep_size (i := pr.length) (sep := ⟨#[32, 111, 114, 32]⟩) (Nat.le_refl (joinB pr ⟨#[32, 111, 114, 32]⟩).size)
    rw [e4] at hs1
    have hlen := wtR_len t
    obtain ⟨o, e1, h1, h2, h3⟩ := row_gr f (sepG pr.length (joinB pr ⟨#[32, 111, 114, 32]⟩) ⟨#[32, 111, 114, 32]⟩) t (by omega) hn.1 (by omega)
    have hc : (chkL t.length && chkS (trueG t (sepG pr.length (joinB pr ⟨#[32, 111, 114, 32]⟩) ⟨#[32, 111, 114, 32]⟩))) = true := by
      rw [show chkL t.length = true from decide_eq_true (by omega), chkS_yes (by omega)]
      rfl
    simp only [orG, hc, e1]
    cases o with
    | none =>
      refine GP.no (fun x hx => ?_)
      obtain ⟨ss, hss, rfl⟩ := hx
      simp only [orI] at hss
      obtain ⟨a, ha, hb⟩ := has_bd.1 hss
      obtain ⟨ss2, _, hb⟩ := has_bd.1 hb
      have hb := has_ret.1 hb
      subst hb
      have := joinB_mem (sep := ⟨#[32, 111, 114, 32]⟩) (l := pr ++ a :: ss2) (s := a) (by simp)
      have := h1 rfl a ha
      omega
    | some acc =>
      obtain ⟨s, hse, rfl, hsz⟩ := h2 acc rfl
      simp only
      rw [← joinB_snoc]
      have hz : ssz 4 (pr ++ [s]) ≤ ssz 4 pr + (wtR t + 4) := by rw [ssz_append]; simp only [ssz]; omega
      have ih := orG_gr f r (pr ++ [s]) (by omega) hn.2 (by omega)
      rw [List.length_append] at ih
      refine ih.congr (by omega) (fun x => ?_)
      constructor
      · rintro ⟨ss, hss, rfl⟩
        exact ⟨s :: ss, has_bd.2 ⟨s, hse, has_bd.2 ⟨ss, hss, has_ret.2 rfl⟩⟩, by simp⟩
      rintro ⟨ss, hss, rfl⟩
      simp only [orI] at hss
      obtain ⟨a, ha, hb⟩ := has_bd.1 hss
      obtain ⟨ss2, h4, hb⟩ := has_bd.1 hb
      have hb := has_ret.1 hb
      subst hb
      have := has_fun ha hse
      subst this
      exact ⟨ss2, h4, by simp⟩
theorem condG_gr (f : Nat) (c : List (List Ts)) (hf : fuC c ≤ f) (hn : nmC c = true) (hw : wtC c ≤ 1000000000) : GP (has (condI c)) (wtC c) (condG f c) := by
  have hlen := wtC_len c
  have hc : chkL c.length = true := decide_eq_true (by omega)
  unfold condG
  rw [hc]
  cases c with
  | nil => exact ⟨⟨_, _, rfl, by show 5 ≤ 10; omega, fun _ => has_ret.2 rfl, fun _ _ _ => rfl⟩⟩
  | cons r c =>
    have hz : (((cnd (r :: c)).length : Int) == 0) = false := by
      rw [beq_eq_false_iff_ne]
      simp only [cnd, List.length_map, List.length_cons]
      omega
    simp only [hz]
    have h := orG_gr f (r :: c) [] hf hn (by simp only [ssz]; omega)
    rw [joinB_nil] at h
    refine h.congr (by simp only [ssz]; omega) (fun t => ?_)
    dsimp only [condI]
    rw [has_bd]
    constructor
    · rintro ⟨ss, h1, rfl⟩; exact ⟨ss, h1, has_ret.2 rfl⟩
    rintro ⟨ss, h1, h2⟩; exact ⟨ss, h1, has_ret.1 h2⟩
end Go.Abs
end
