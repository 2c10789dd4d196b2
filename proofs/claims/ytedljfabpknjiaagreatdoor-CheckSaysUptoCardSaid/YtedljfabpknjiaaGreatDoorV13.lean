/- Texts of this proof, joined: AbsRG, AbsNA, AbsNB, AbsKB, AbsKC, AbsKD. -/
import Derived.Test.YtedljfabpknjiaaGreatDoorV12
import Derived.Test.YtedljfabpknjiaaGreatDoorV7
import Derived.Test.YtedljfabpknjiaaGreatDoorV10
import Derived.Lib.AtoiAllCases
section
namespace Go.Abs
open Go Go.Proofs
attribute [local irreducible] aCall AWp Sub Spec
theorem sms_snoc2 : ∀ (l : List Sm) (e : Sm), sms l ++ [e.cs] = sms (l ++ [e])
 | [], e => rfl
 | x :: r, e => by simp only [sms, List.cons_append, sms_snoc2 r e]
def OfE (G : Glob) (f : FuncId) (m : Nat) : Prop := ∀ l : List Ex, fuL l < m → wtL l ≤ 1000000000 → Spec Tryz.prog G f [.d (.sl 4 (exs l))] [] (.ret (.d (.sl 4 (exs l)))) []
theorem tss_len3 (l : List Ts) : (tss l).length = l.length := by simp [tss]
theorem cnd_len3 (l : List (List Ts)) : (cnd l).length = l.length := by simp [cnd]
theorem fuL_app : ∀ (a b : List Ex), fuL (a ++ b) = fuL a + fuL b
 | [], b => by simp [fuL]
 | x :: a, b => by simp only [List.cons_append, fuL, fuL_app a b]; omega
theorem wtL_app : ∀ (a b : List Ex), wtL (a ++ b) = wtL a + wtL b
 | [], b => by simp [wtL]
 | x :: a, b => by simp only [List.cons_append, wtL, wtL_app a b]; omega
def p156_5 : Plan := (.take 0 (.take 1 (.take 2 (.take 3 (.take 4 (.load 5 (.take 6 (.take 7 (.take 8 (.take 9 (.load 10 (.take 11 (.take 12 (.take 13 (.take 14 (.load 15 (.take 16 (.take 17 (.take 18 (.take 19 (.load 20 (.one 21 (.one 22 (.one 23 (.one 24 (.take 25 .done))))))))))))))))))))))))))
theorem exprsOf_step (G : Glob) (m : Nat) (ih : OfE G 156 m) : OfE G 156 (m + 1) := by
 intro l hf hw; have hlen := wtL_len l
 have hbig : l.length ≤ 1073741824 := by omega
 refine spec_of_awp2 TT_ok (N := 37) Tryz.func156 rfl (by rfl) (Nat.le_refl _) rfl ?_; refine rgs fun E K J O => ?_; refine O _ (aN [0] rfl rfl ?_); clear O J K E; refine rgs fun E K J O => ?_; refine O _ (aN [0, 3] rfl rfl ?_); clear O J K E; refine awp_seq ?_; refine rgs fun E K J O => ?_; refine O _ (aN [0, 3, 4] rfl rfl ?_); clear O J K E; refine awp_acc 3 157 4 rfl rfl rfl ?_; refine awp_norm [0, 3, 4] rfl rfl ?_; refine awp_block ?_; refine awp_loop (fun k Y => ∃ (d1 e1 : List Ex), k = e1.length ∧ l = d1 ++ e1 ∧ Y = ⟨[(0, .d (.sl 4 (exs l))), (3, .acc 0), (4, .d (num d1.length))], [.acc 157 4 (exs d1)]⟩) (l.length) (⟨[], l, rfl, rfl, rfl⟩) ?_; rintro k Y ⟨d1, e1, rfl, hl1, rfl⟩
 have hll1 : (exs l).length = d1.length + e1.length := by rw [ex_len, hl1, List.length_append]
 have hdl1 : d1.length + e1.length ≤ 1073741824 := by rw [hl1, List.length_append] at hbig; exact hbig
 refine awp_seq ?_; refine rgs fun E K J O => ?_; refine O _ (aN [0, 3, 4, 8] rfl rfl ?_); clear O J K E; refine awp_cond2 rfl (onB_intro (fun h1 => ?_) (fun h1 => ?_))
 ·have h1' := of_decide_eq_true h1
  rw [hll1] at h1'
  cases e1 with
  | nil => simp only [List.length_nil] at h1'; omega
  | cons x e1b =>
  obtain ⟨p1, n1, m1, l1⟩ := x; subst hl1; simp only [List.length_cons] at hdl1
  have hfx : fuL l1 < m := by rw [fuL_app] at hf; simp only [fuL, fuE] at hf; omega
  have hwx : wtL l1 ≤ 1000000000 := by rw [wtL_app] at hw; simp only [wtL, wtE] at hw; omega
  refine awp_skip ?_; refine awp_seq ?_; refine awp_block ?_; refine (awp_draw TT_ok mixed p156_5 [24] (fun _ => false) (by kernel_rfl) fun E K J O => ?_); refine And.intro ((by omega)) (Exists.intro _ (And.intro (exs_at rfl) ?_)); refine And.intro ((by omega)) (Exists.intro _ (And.intro (exs_at rfl) ?_)); refine And.intro ((by omega)) (Exists.intro _ (And.intro (exs_at rfl) ?_)); refine And.intro ((by omega)) (Exists.intro _ (And.intro (exs_at rfl) ?_))
  show aCall _ _ _ _ _ _ _
  refine aR [] rfl rfl rfl (ih l1 hfx hwx) rfl rfl rfl rfl ?_; refine And.intro (And.intro ((by simp only [ex_len, chunk_length]; omega)) ((by simp only [ex_len, chunk_length, maxLen]; omega))) ?_; refine O _ (aN [0, 3, 4] rfl rfl ?_); clear O J K E; refine rgn fun E K J O => ?_; refine O _ ?_; clear O J K E; exact ⟨_, Nat.lt_succ_self _, _, sub_pick (L := [0]) (slots := [0, 3, 4]) rfl rfl rfl rfl rfl, d1 ++ [.mk p1 n1 m1 l1], e1b, rfl, by simp, by rw [← exs_snoc, List.length_append, wrapId (by omega) (by omega)]; rfl⟩
 have h1' := of_decide_eq_false h1; rw [hll1] at h1'; obtain rfl : e1 = [] := List.eq_nil_of_length_eq_zero (by omega); rw [List.append_nil] at hl1; subst hl1; refine awp_exit ?_; refine awp_norm [3] rfl rfl ?_; refine rgs fun E K J O => ?_; refine O _ (aN [2] rfl rfl ?_); clear O J K E; refine awp_ret ?_; exact ⟨_, [], _, [.d (.sl 4 (exs l))], rfl, rfl, rfl, rfl, rfl, PWs.refl _, rfl⟩
theorem exprsOf_spec (G : Glob) : ∀ m, OfE G 156 m
 | 0 => fun l h => absurd h (by omega)
 | m + 1 => exprsOf_step G m (exprsOf_spec G m)
theorem exprsOf_all (G : Glob) (l : List Ex) (hw : wtL l ≤ 1000000000) : Spec Tryz.prog G 156 [.d (.sl 4 (exs l))] [] (.ret (.d (.sl 4 (exs l)))) [] := exprsOf_spec G (fuL l + 1) l (Nat.lt_succ_self _) hw
def p84_1 : Plan := (.take 0 (.load 1 (.take 2 (.load 3 (.take 4 (.load 5 (.take 6 (.load 7 (.one 8 (.one 9 (.one 10 .done)))))))))))
theorem exprOf_spec (G : Glob) (e : Ex) (hw : wtE e ≤ 1000000000) : Spec Tryz.prog G 84 [.d (.agg e.cs)] [] (.ret (.d (.agg e.cs))) [] := by
 obtain ⟨op, n, nm, l⟩ := e; refine spec_of_awp2 TT_ok (N := 13) Tryz.func84 rfl (by rfl) (Nat.le_refl _) rfl ?_; refine rgs fun E K J O => ?_; refine O _ (aN [1, 2] rfl rfl ?_); clear O J K E; refine awp_seq ?_; refine (awp_draw TT_ok mixed p84_1 [10] (fun i => Nat.beq i 0) (by kernel_rfl) fun E K J O => ?_)
 show aCall _ _ _ _ _ _ _
 refine aR [] rfl rfl rfl (exprsOf_all G l (by simp only [wtE] at hw; omega)) rfl rfl rfl rfl ?_; refine O _ (aN [2] rfl rfl ?_); clear O J K E; refine awp_ret ?_; exact ⟨_, [], _, [encE (.mk op n nm l)], rfl, rfl, rfl, rfl, rfl, PWs.refl _, rfl⟩
theorem wtR_app : ∀ (a b : List Ts), wtR b ≤ wtR (a ++ b)
 | [], b => Nat.le_refl _
 | x :: a, b => by have := wtR_app a b; simp only [List.cons_append, wtR]; omega
def p157_5 : Plan := (.take 0 (.take 1 (.take 2 (.take 3 (.take 4 (.load 5 (.take 7 (.take 8 (.take 9 (.take 10 (.load 11 (.take 12 (.take 13 (.take 14 (.take 15 (.load 16 (.one 6 (.one 17 (.one 18 (.one 19 (.one 20 (.take 21 .done))))))))))))))))))))))
theorem testsOf_spec (G : Glob) (l : List Ts) (hw : wtR l ≤ 1000000000) : Spec Tryz.prog G 157 [.d (.sl 9 (tss l))] [] (.ret (.d (.sl 9 (tss l)))) [] := by
 have hlen := wtR_len l
 have hbig : l.length ≤ 1073741824 := by omega
 refine spec_of_awp2 TT_ok (N := 33) Tryz.func157 rfl (by rfl) (Nat.le_refl _) rfl ?_; refine rgs fun E K J O => ?_; refine O _ (aN [0] rfl rfl ?_); clear O J K E; refine rgs fun E K J O => ?_; refine O _ (aN [0, 3] rfl rfl ?_); clear O J K E; refine awp_seq ?_; refine rgs fun E K J O => ?_; refine O _ (aN [0, 3, 4] rfl rfl ?_); clear O J K E; refine awp_acc 3 282 9 rfl rfl rfl ?_; refine awp_norm [0, 3, 4] rfl rfl ?_; refine awp_block ?_; refine awp_loop (fun k Y => ∃ (d1 e1 : List Ts), k = e1.length ∧ l = d1 ++ e1 ∧ Y = ⟨[(0, .d (.sl 9 (tss l))), (3, .acc 0), (4, .d (num d1.length))], [.acc 282 9 (tss d1)]⟩) (l.length) (⟨[], l, rfl, rfl, rfl⟩) ?_; rintro k Y ⟨d1, e1, rfl, hl1, rfl⟩
 have hll1 : (tss l).length = d1.length + e1.length := by rw [tss_len3, hl1, List.length_append]
 have hdl1 : d1.length + e1.length ≤ 1073741824 := by rw [hl1, List.length_append] at hbig; exact hbig
 refine awp_seq ?_; refine rgs fun E K J O => ?_; refine O _ (aN [0, 3, 4, 8] rfl rfl ?_); clear O J K E; refine awp_cond2 rfl (onB_intro (fun h1 => ?_) (fun h1 => ?_))
 ·have h1' := of_decide_eq_true h1
  rw [hll1] at h1'
  cases e1 with
  | nil => simp only [List.length_nil] at h1'; omega
  | cons x e1b =>
  obtain ⟨⟨p1, n1, m1, l1⟩, rel, ⟨p2, n2, m2, l2⟩⟩ := x; subst hl1; simp only [List.length_cons] at hdl1; have hx := wtR_app d1 (⟨.mk p1 n1 m1 l1, rel, .mk p2 n2 m2 l2⟩ :: e1b); rw [wtR, wtT] at hx; simp only at hx; refine awp_skip ?_; refine awp_seq ?_; refine awp_block ?_; refine (awp_draw TT_ok mixed p157_5 [20] (fun _ => false) (by kernel_rfl) fun E K J O => ?_); refine And.intro ((by omega)) (Exists.intro _ (And.intro (tss_at rfl) ?_)); refine And.intro ((by omega)) (Exists.intro _ (And.intro (tss_at rfl) ?_)); refine And.intro ((by omega)) (Exists.intro _ (And.intro (tss_at rfl) ?_))
  show aCall _ _ _ _ _ _ _
  refine aR [] rfl rfl rfl (exprOf_spec G (.mk p1 n1 m1 l1) (by omega)) rfl rfl rfl rfl ?_
  show aCall _ _ _ _ _ _ _
  refine aR [] rfl rfl rfl (exprOf_spec G (.mk p2 n2 m2 l2) (by omega)) rfl rfl rfl rfl ?_; refine And.intro (And.intro ((by simp only [tss_len3, chunk_length]; omega)) ((by simp only [tss_len3, chunk_length, maxLen]; omega))) ?_; refine O _ (aN [0, 3, 4] rfl rfl ?_); clear O J K E; refine rgn fun E K J O => ?_; refine O _ ?_; clear O J K E; exact ⟨_, Nat.lt_succ_self _, _, sub_pick (L := [0]) (slots := [0, 3, 4]) rfl rfl rfl rfl rfl, d1 ++ [⟨.mk p1 n1 m1 l1, rel, .mk p2 n2 m2 l2⟩], e1b, rfl, by simp, by rw [← tss_snoc, List.length_append, wrapId (by omega) (by omega)]; rfl⟩
 have h1' := of_decide_eq_false h1; rw [hll1] at h1'; obtain rfl : e1 = [] := List.eq_nil_of_length_eq_zero (by omega); rw [List.append_nil] at hl1; subst hl1; refine awp_exit ?_; refine awp_norm [3] rfl rfl ?_; refine rgs fun E K J O => ?_; refine O _ (aN [2] rfl rfl ?_); clear O J K E; refine awp_ret ?_; exact ⟨_, [], _, [.d (.sl 9 (tss l))], rfl, rfl, rfl, rfl, rfl, PWs.refl _, rfl⟩
theorem fuB_app : ∀ (a b : List Sm), fuB b ≤ fuB (a ++ b)
 | [], b => Nat.le_refl _
 | x :: a, b => by have := fuB_app a b; simp only [List.cons_append, fuB]; omega
theorem wtB_app : ∀ (a b : List Sm), wtB b ≤ wtB (a ++ b)
 | [], b => Nat.le_refl _
 | x :: a, b => by have := wtB_app a b; simp only [List.cons_append, wtB]; omega
theorem wtC_app : ∀ (a b : List (List Ts)), wtC b ≤ wtC (a ++ b)
 | [], b => Nat.le_refl _
 | x :: a, b => by have := wtC_app a b; simp only [List.cons_append, wtC]; omega
theorem wtP_app : ∀ (a b : List Pc), wtP b ≤ wtP (a ++ b)
 | [], b => Nat.le_refl _
 | x :: a, b => by have := wtP_app a b; simp only [List.cons_append, wtP]; omega
def OfS (G : Glob) (m : Nat) : Prop := ∀ l : List Sm, fuB l < m → wtB l ≤ 1000000000 → Spec Tryz.prog G 83 [.d (.sl 7 (sms l))] [] (.ret (.d (.sl 7 (sms l)))) []
set_option maxHeartbeats 1000000
def p83_5 : Plan := (.take 0 (.take 1 (.take 2 (.take 3 (.load 4 (.take 5 (.take 6 (.take 7 (.take 8 (.load 9 (.take 10 (.take 11 (.take 12 (.take 13 (.load 14 (.take 15 (.take 16 (.take 17 (.take 18 (.load 19 (.take 21 (.take 22 (.take 23 (.take 24 (.load 25 (.take 27 (.take 28 (.take 29 (.take 30 (.load 31 (.alt 20 (.alt 26 (.alt 32 (.alt 33 (.one 34 (.one 35 .done)) (.alt 34 (.one 33 (.one 35 .done)) .done)) (.alt 34 (.one 32 (.one 33 (.one 35 .done))) .done)) (.alt 34 (.one 26 (.one 32 (.one 33 (.one 35 .done)))) .done)) (.alt 34 (.one 20 (.one 26 (.one 32 (.one 33 (.one 35 .done))))) .done))))))))))))))))))))))))))))))))
def p83_9 : Plan := (.take 0 (.load 1 (.take 2 (.take 3 (.take 4 (.take 5 (.load 6 (.take 7 (.take 8 (.load 9 (.one 10 (.one 11 (.one 12 (.take 13 (.one 14 .done)))))))))))))))
theorem stmtsOf_step (G : Glob) (m : Nat) (ih : OfS G m) : OfS G (m + 1) := by
 intro l hf hw; have hlen := wtB_len l
 have hbig : l.length ≤ 1073741824 := by omega
 refine spec_of_awp2 TT_ok (N := 76) Tryz.func83 rfl (by rfl) (Nat.le_refl _) rfl ?_; refine rgs fun E K J O => ?_; refine O _ (aN [0] rfl rfl ?_); clear O J K E; refine rgs fun E K J O => ?_; refine O _ (aN [0, 3] rfl rfl ?_); clear O J K E; refine awp_seq ?_; refine rgs fun E K J O => ?_; refine O _ (aN [0, 3, 4] rfl rfl ?_); clear O J K E; refine awp_acc 3 217 7 rfl rfl rfl ?_; refine awp_norm [0, 3, 4] rfl rfl ?_; refine awp_block ?_; refine awp_loop (fun k Y => ∃ (d1 e1 : List Sm), k = e1.length ∧ l = d1 ++ e1 ∧ Y = ⟨[(0, .d (.sl 7 (sms l))), (3, .acc 0), (4, .d (num d1.length))], [.acc 217 7 (sms d1)]⟩) (l.length) (⟨[], l, rfl, rfl, rfl⟩) ?_; rintro k Y ⟨d1, e1, rfl, hl1, rfl⟩
 have hll1 : (sms l).length = d1.length + e1.length := by rw [sms_len2, hl1, List.length_append]
 have hdl1 : d1.length + e1.length ≤ 1073741824 := by rw [hl1, List.length_append] at hbig; exact hbig
 refine awp_seq ?_; refine rgs fun E K J O => ?_; refine O _ (aN [0, 3, 4, 10] rfl rfl ?_); clear O J K E; refine awp_cond2 rfl (onB_intro (fun h1 => ?_) (fun h1 => ?_))
 ·have h1' := of_decide_eq_true h1
  rw [hll1] at h1'
  cases e1 with
  | nil => simp only [List.length_nil] at h1'; omega
  | cons x e1b =>
  obtain ⟨kind, name, proc, args, cond, body, els⟩ := x; subst hl1; simp only [List.length_cons] at hdl1; have hfx := fuB_app d1 (.mk kind name proc args cond body els :: e1b); have hwx := wtB_app d1 (.mk kind name proc args cond body els :: e1b); simp only [fuB, fuS, wtB, wtS] at hfx hwx; have hfb := fuB_ge body; have hfe := fuB_ge els; have hcl := wtC_len cond
  have hbig2 : cond.length ≤ 1073741824 := by omega
  refine awp_skip ?_; refine awp_seq ?_; refine awp_block ?_; refine awp_cut (fun Z => Z = ⟨[(0, .d (.sl 7 (sms (d1 ++ .mk kind name proc args cond body els :: e1b)))), (3, .acc 0), (4, .d (num d1.length)), (5, .box 1 0)], [.acc 217 7 (sms d1), .box 217 [.d (str kind), .d (str name), .d (str proc), .d (.sl 4 (exs args)), .d (.s (.slice none 0 0)), .d (.sl 7 (sms body)), .d (.sl 7 (sms els))]]⟩) ?_ ?_
  ·refine (awp_draw TT_ok mixed p83_5 [35] (fun _ => false) (by kernel_rfl) fun E K J O => ?_)
   refine And.intro ((by omega)) (Exists.intro _ (And.intro (sms_at2 rfl) ?_)); refine And.intro ((by omega)) (Exists.intro _ (And.intro (sms_at2 rfl) ?_)); refine And.intro ((by omega)) (Exists.intro _ (And.intro (sms_at2 rfl) ?_)); refine And.intro ((by omega)) (Exists.intro _ (And.intro (sms_at2 rfl) ?_)); refine And.intro ((by omega)) (Exists.intro _ (And.intro (sms_at2 rfl) ?_)); refine And.intro ((by omega)) (Exists.intro _ (And.intro (sms_at2 rfl) ?_)); refine And.intro ?_ ?_
   ·show aCall _ _ _ _ _ _ _
    refine aR [] rfl rfl rfl (exprsOf_all G args (by omega)) rfl rfl rfl rfl ?_; refine And.intro ?_ ?_
    ·show aCall _ _ _ _ _ _ _
     refine aR [] rfl rfl rfl (ih body (by omega) (by omega)) rfl rfl rfl rfl ?_; refine And.intro ?_ ?_
     ·show aCall _ _ _ _ _ _ _
      refine aR [] rfl rfl rfl (ih els (by omega) (by omega)) rfl rfl rfl rfl ?_; refine And.intro ?_ ?_
      ·refine O _ ?_; clear O J K E
       exact ⟨_, sub_norm (slots := [0, 3, 4, 5]) rfl rfl, rfl⟩
      refine And.intro ?_ ?_
      ·refine O _ ?_; clear O J K E
       exact ⟨_, sub_norm (slots := [0, 3, 4, 5]) rfl rfl, rfl⟩
      trivial
     refine And.intro ?_ ?_
     ·show aCall _ _ _ _ _ _ _
      refine aR [] rfl rfl rfl (ih els (by omega) (by omega)) rfl rfl rfl rfl ?_; refine O _ ?_; clear O J K E; exact ⟨_, sub_norm (slots := [0, 3, 4, 5]) rfl rfl, rfl⟩
     trivial
    refine And.intro ?_ ?_
    ·show aCall _ _ _ _ _ _ _
     refine aR [] rfl rfl rfl (ih body (by omega) (by omega)) rfl rfl rfl rfl ?_
     show aCall _ _ _ _ _ _ _
     refine aR [] rfl rfl rfl (ih els (by omega) (by omega)) rfl rfl rfl rfl ?_; refine O _ ?_; clear O J K E; exact ⟨_, sub_norm (slots := [0, 3, 4, 5]) rfl rfl, rfl⟩
    trivial
   refine And.intro ?_ ?_
   ·show aCall _ _ _ _ _ _ _
    refine aR [] rfl rfl rfl (exprsOf_all G args (by omega)) rfl rfl rfl rfl ?_
    show aCall _ _ _ _ _ _ _
    refine aR [] rfl rfl rfl (ih body (by omega) (by omega)) rfl rfl rfl rfl ?_
    show aCall _ _ _ _ _ _ _
    refine aR [] rfl rfl rfl (ih els (by omega) (by omega)) rfl rfl rfl rfl ?_; refine O _ ?_; clear O J K E; exact ⟨_, sub_norm (slots := [0, 3, 4, 5]) rfl rfl, rfl⟩
   trivial
  rintro Z rfl; refine awp_seq ?_; refine rgs fun E K J O => ?_; refine O _ (aN [0, 3, 4, 5, 6] rfl rfl ?_); clear O J K E; refine awp_accCell 1 4 123 1 rfl rfl rfl rfl ?_; refine awp_norm [0, 3, 4, 5, 6] rfl rfl ?_; refine awp_block ?_; refine awp_loop (fun k Y => ∃ (d2 e2 : List (List Ts)), k = e2.length ∧ cond = d2 ++ e2 ∧ Y = ⟨[(0, .d (.sl 7 (sms (d1 ++ .mk kind name proc args cond body els :: e1b)))), (3, .acc 0), (4, .d (num d1.length)), (5, .box 1 0), (6, .d (num d2.length))], [.acc 217 7 (sms d1), .box 217 [.d (str kind), .d (str name), .d (str proc), .d (.sl 4 (exs args)), .acc 2, .d (.sl 7 (sms body)), .d (.sl 7 (sms els))], .acc 123 1 (cnd d2)]⟩) (cond.length) (⟨[], cond, rfl, rfl, rfl⟩) ?_; rintro k Y ⟨d2, e2, rfl, hl2, rfl⟩
  have hll2 : (cnd cond).length = d2.length + e2.length := by rw [cnd_len3, hl2, List.length_append]
  have hdl2 : d2.length + e2.length ≤ 1073741824 := by rw [hl2, List.length_append] at hbig2; exact hbig2
  refine awp_seq ?_; refine rgs fun E K J O => ?_; refine And.intro ((by omega)) (Exists.intro _ (And.intro (sms_at2 rfl) ?_)); refine O _ (aN [0, 3, 4, 5, 6, 54] rfl rfl ?_); clear O J K E; refine awp_cond2 rfl (onB_intro (fun h2 => ?_) (fun h2 => ?_))
  ·have h2' := of_decide_eq_true h2
   rw [hll2] at h2'
   cases e2 with
   | nil => simp only [List.length_nil] at h2'; omega
   | cons x e2b =>
   subst hl2; simp only [List.length_cons] at hdl2; have hcx := wtC_app d2 (x :: e2b); simp only [wtC] at hcx; refine awp_skip ?_; refine awp_seq ?_; refine awp_block ?_; refine (awp_draw TT_ok mixed p83_9 [12, 14] (fun i => Nat.beq i 1) (by kernel_rfl) fun E K J O => ?_); refine And.intro ((by omega)) (Exists.intro _ (And.intro (sms_at2 rfl) ?_)); refine And.intro (by omega) (Exists.intro _ (And.intro (cnd_at rfl) ?_))
   show aCall _ _ _ _ _ _ _
   refine aR [] rfl rfl rfl (testsOf_spec G x (by omega)) rfl rfl rfl rfl ?_; refine And.intro (And.intro ((by simp only [cnd_len3, chunk_length]; omega)) ((by simp only [cnd_len3, chunk_length, maxLen]; omega))) ?_; refine O _ (aN [0, 3, 4, 5, 6] rfl rfl ?_); clear O J K E; refine rgn fun E K J O => ?_; refine O _ ?_; clear O J K E; exact ⟨_, Nat.lt_succ_self _, _, sub_pick (L := [0, 1, 2]) (slots := [0, 3, 4, 5, 6]) rfl rfl rfl rfl rfl, d2 ++ [x], e2b, rfl, by simp, by rw [← cnd_snoc, List.length_append, wrapId (by omega) (by omega)]; rfl⟩
  have h2' := of_decide_eq_false h2; rw [hll2] at h2'; obtain rfl : e2 = [] := List.eq_nil_of_length_eq_zero (by omega); rw [List.append_nil] at hl2; subst hl2; refine awp_exit ?_; refine awp_norm [0, 3, 4, 5] rfl rfl ?_; refine rgn fun E K J O => ?_; refine And.intro (And.intro ((by simp only [sms_len2, chunk_length]; omega)) ((by simp only [sms_len2, chunk_length, maxLen]; omega))) ?_; refine O _ (aN [0, 3, 4] rfl rfl ?_); clear O J K E; refine rgn fun E K J O => ?_; refine O _ ?_; clear O J K E; exact ⟨_, Nat.lt_succ_self _, _, sub_pick (L := [0]) (slots := [0, 3, 4]) rfl rfl rfl rfl rfl, d1 ++ [.mk kind name proc args cond body els], e1b, rfl, by simp, by rw [← sms_snoc2, List.length_append, wrapId (by omega) (by omega)]; rfl⟩
 have h1' := of_decide_eq_false h1; rw [hll1] at h1'; obtain rfl : e1 = [] := List.eq_nil_of_length_eq_zero (by omega); rw [List.append_nil] at hl1; subst hl1; refine awp_exit ?_; refine awp_norm [3] rfl rfl ?_; refine rgs fun E K J O => ?_; refine O _ (aN [2] rfl rfl ?_); clear O J K E; refine awp_ret ?_; exact ⟨_, [], _, [.d (.sl 7 (sms l))], rfl, rfl, rfl, rfl, rfl, PWs.refl _, rfl⟩
theorem stmtsOf_spec (G : Glob) : ∀ m, OfS G m
 | 0 => fun l h => absurd h (by omega)
 | m + 1 => stmtsOf_step G m (stmtsOf_spec G m)
theorem stmtsOf_all (G : Glob) (l : List Sm) (hw : wtB l ≤ 1000000000) : Spec Tryz.prog G 83 [.d (.sl 7 (sms l))] [] (.ret (.d (.sl 7 (sms l)))) [] := stmtsOf_spec G (fuB l + 1) l (Nat.lt_succ_self _) hw
def p23_6 : Plan := (.take 0 (.load 1 (.take 2 (.load 3 (.take 4 (.take 5 (.take 6 (.load 7 (.take 8 (.load 9 (.take 10 (.take 11 (.take 12 (.load 13 (.one 14 (.one 15 (.one 16 (.take 17 (.one 18 .done)))))))))))))))))))
def p23_10 : Plan := (.take 0 (.load 1 (.take 2 (.take 3 (.take 4 (.load 5 (.take 6 (.load 7 (.take 8 (.take 9 (.take 10 (.load 11 (.take 13 (.load 14 (.take 15 (.take 16 (.take 17 (.load 18 (.alt 12 (.alt 19 (.alt 20 (.one 21 (.one 22 .done)) (.alt 21 (.one 20 (.one 22 .done)) .done)) (.alt 21 (.one 19 (.one 20 (.one 22 .done))) .done)) (.alt 21 (.one 12 (.one 19 (.one 20 (.one 22 .done)))) .done))))))))))))))))))))
def p23_11 : Plan := (.take 0 (.load 1 (.take 2 (.load 3 (.take 4 (.take 5 (.take 6 (.load 7 (.one 8 (.take 9 (.one 10 .done)))))))))))
theorem programOf_spec (G : Glob) (p : Pg) (hw : wtPg p ≤ 1000000000) : Spec Tryz.prog G 23 [.d (.agg p.cs)] [] (.ret (.d (.agg p.cs))) [] := by
 obtain ⟨vars, arrays, procs, main⟩ := p; simp only [wtPg] at hw; have h1 := wtV_len vars; have h2 := wtA_len arrays; have h3 := wtP_len procs
 have hb1 : arrays.length ≤ 1073741824 := by omega
 have hb2 : procs.length ≤ 1073741824 := by omega
 refine spec_of_awp2 TT_ok (N := 87) Tryz.func23 rfl (by rfl) (Nat.le_refl _) rfl ?_; refine rgs fun E K J O => ?_; refine O _ (aN [1, 2] rfl rfl ?_); clear O J K E; refine rgs fun E K J O => ?_; show aCall _ _ _ _ _ _ _; refine aR [] rfl rfl rfl (stmtsOf_all G main (by omega)) rfl rfl rfl rfl ?_; refine O _ (aN [1, 2, 3] rfl rfl ?_); clear O J K E; refine awp_accCell 2 0 9 1 rfl rfl rfl rfl ?_; refine awp_accCell 2 1 169 2 rfl rfl rfl rfl ?_; refine awp_accCell 2 2 159 7 rfl rfl rfl rfl ?_; refine awp_norm [1, 2, 3] rfl rfl ?_; refine rgs fun E K J O => ?_; refine And.intro (And.intro ((by simp only [strs_length, List.length_nil]; omega)) ((by simp only [strs_length, List.length_nil, maxLen]; omega))) ?_; refine O _ (aN [1, 2, 3] rfl rfl ?_); clear O J K E; refine awp_seq ?_; refine rgs fun E K J O => ?_; refine O _ (aN [1, 2, 3, 4] rfl rfl ?_); clear O J K E; refine awp_block ?_; refine awp_loop (fun k Y => ∃ (d1 e1 : List Ar), k = e1.length ∧ arrays = d1 ++ e1 ∧ Y = ⟨[(1, .box 0 0), (2, .box 1 0), (3, .box 2 0), (4, .d (num d1.length))], [.box 37 [.d (.sl 1 (strs vars)), .d (.sl 2 (ars arrays)), .d (.sl 7 (pcs procs)), .d (.sl 7 (sms main))], .box 28 [.d (.s (.slice none 0 0)), .d (.s (.slice none 0 0)), .d (.s (.slice none 0 0)), .d (.s (.slice none 0 0))], .box 28 [.acc 3, .acc 4, .acc 5, .d (.sl 7 (sms main))], .acc 9 1 (strs vars), .acc 169 2 (ars d1), .acc 159 7 (pcs [])]⟩) (arrays.length) (⟨[], arrays, rfl, rfl, rfl⟩) ?_; rintro k Y ⟨d1, e1, rfl, hl1, rfl⟩
 have hll1 : (ars arrays).length = d1.length + e1.length := by rw [ars, List.length_map, hl1, List.length_append]
 have hdl1 : d1.length + e1.length ≤ 1073741824 := by rw [hl1, List.length_append] at hb1; exact hb1
 refine awp_seq ?_; refine rgs fun E K J O => ?_; refine O _ (aN [1, 2, 3, 4, 21] rfl rfl ?_); clear O J K E; refine awp_cond2 rfl (onB_intro (fun h1 => ?_) (fun h1 => ?_))
 ·have h1' := of_decide_eq_true h1
  rw [hll1] at h1'
  cases e1 with
  | nil => simp only [List.length_nil] at h1'; omega
  | cons x e1b =>
  obtain ⟨nm, sz⟩ := x; subst hl1; simp only [List.length_cons] at hdl1; refine awp_skip ?_; refine awp_seq ?_; refine awp_block ?_; refine (awp_draw TT_ok mixed p23_6 [16, 18] (fun _ => true) (by kernel_rfl) fun E K J O => ?_); refine And.intro (by omega) (Exists.intro _ (And.intro (ars_at rfl) ?_)); refine And.intro (by omega) (Exists.intro _ (And.intro (ars_at rfl) ?_)); refine And.intro (And.intro ((by simp only [ars, List.length_map, chunk_length]; omega)) ((by simp only [ars, List.length_map, chunk_length, maxLen]; omega))) ?_; refine O _ (aN [1, 2, 3, 4] rfl rfl ?_); clear O J K E; refine rgn fun E K J O => ?_; refine O _ ?_; clear O J K E; exact ⟨_, Nat.lt_succ_self _, _, sub_pick (L := [0, 1, 2, 3, 4, 5]) (slots := [1, 2, 3, 4]) rfl rfl rfl rfl rfl, d1 ++ [⟨nm, sz⟩], e1b, rfl, by simp, by rw [← ars_snoc, List.length_append, wrapId (by omega) (by omega)]; rfl⟩
 have h1' := of_decide_eq_false h1; rw [hll1] at h1'; obtain rfl : e1 = [] := List.eq_nil_of_length_eq_zero (by omega); rw [List.append_nil] at hl1; subst hl1; refine awp_exit ?_; refine awp_norm [1, 2, 3] rfl rfl ?_; refine awp_seq ?_; refine rgs fun E K J O => ?_; refine O _ (aN [1, 2, 3, 5] rfl rfl ?_); clear O J K E; refine awp_block ?_; refine awp_loop (fun k Y => ∃ (d2 e2 : List Pc), k = e2.length ∧ procs = d2 ++ e2 ∧ Y = ⟨[(1, .box 0 0), (2, .box 1 0), (3, .box 2 0), (5, .d (num d2.length))], [.box 37 [.d (.sl 1 (strs vars)), .d (.sl 2 (ars arrays)), .d (.sl 7 (pcs procs)), .d (.sl 7 (sms main))], .box 28 [.d (.s (.slice none 0 0)), .d (.s (.slice none 0 0)), .d (.s (.slice none 0 0)), .d (.s (.slice none 0 0))], .box 28 [.acc 3, .acc 4, .acc 5, .d (.sl 7 (sms main))], .acc 9 1 (strs vars), .acc 169 2 (ars arrays), .acc 159 7 (pcs d2)]⟩) (procs.length) (⟨[], procs, rfl, rfl, rfl⟩) ?_; rintro k Y ⟨d2, e2, rfl, hl2, rfl⟩
 have hll2 : (pcs procs).length = d2.length + e2.length := by rw [pcs, List.length_map, hl2, List.length_append]
 have hdl2 : d2.length + e2.length ≤ 1073741824 := by rw [hl2, List.length_append] at hb2; exact hb2
 refine awp_seq ?_; refine rgs fun E K J O => ?_; refine O _ (aN [1, 2, 3, 5, 46] rfl rfl ?_); clear O J K E; refine awp_cond2 rfl (onB_intro (fun h2 => ?_) (fun h2 => ?_))
 ·have h2' := of_decide_eq_true h2
  rw [hll2] at h2'
  cases e2 with
  | nil => simp only [List.length_nil] at h2'; omega
  | cons x e2b =>
  obtain ⟨nm, ps, bd, rt⟩ := x; obtain ⟨p1, n1, m1, l1⟩ := rt; subst hl2; simp only [List.length_cons] at hdl2; have hpx := wtP_app d2 (⟨nm, ps, bd, .mk p1 n1 m1 l1⟩ :: e2b); simp only [wtP] at hpx; have hpl := wtV_len ps; refine awp_skip ?_; refine awp_seq ?_; refine awp_block ?_; refine awp_cut (fun Z => Z = ⟨[(1, .box 0 0), (2, .box 1 0), (3, .box 2 0), (5, .d (num d2.length)), (6, .box 6 0)], [.box 37 [.d (.sl 1 (strs vars)), .d (.sl 2 (ars arrays)), .d (.sl 7 (pcs (d2 ++ ⟨nm, ps, bd, .mk p1 n1 m1 l1⟩ :: e2b))), .d (.sl 7 (sms main))], .box 28 [.d (.s (.slice none 0 0)), .d (.s (.slice none 0 0)), .d (.s (.slice none 0 0)), .d (.s (.slice none 0 0))], .box 28 [.acc 3, .acc 4, .acc 5, .d (.sl 7 (sms main))], .acc 9 1 (strs vars), .acc 169 2 (ars arrays), .acc 159 7 (pcs d2), .box 159 [.d (str nm), .d (.s (.slice none 0 0)), .d (.sl 7 (sms bd)), .d (str p1), .d (num n1), .d (str m1), .d (.sl 4 (exs l1))]]⟩) ?_ ?_
  ·refine (awp_draw TT_ok mixed p23_10 [22] (fun i => Nat.beq i 0) (by kernel_rfl) fun E K J O => ?_)
   refine And.intro (by omega) (Exists.intro _ (And.intro (pcs_at rfl) ?_)); refine And.intro (by omega) (Exists.intro _ (And.intro (pcs_at rfl) ?_)); refine And.intro (by omega) (Exists.intro _ (And.intro (pcs_at rfl) ?_)); refine And.intro ?_ ?_
   ·show aCall _ _ _ _ _ _ _
    refine aR [] rfl rfl rfl (stmtsOf_all G bd (by omega)) rfl rfl rfl rfl ?_; refine And.intro ?_ ?_
    ·show aCall _ _ _ _ _ _ _
     refine aR [] rfl rfl rfl (exprOf_spec G (.mk p1 n1 m1 l1) (by omega)) rfl rfl rfl rfl ?_; refine And.intro ?_ ?_
     ·refine O _ ?_; clear O J K E
      exact ⟨_, sub_norm (slots := [1, 2, 3, 5, 6]) rfl rfl, rfl⟩
     refine And.intro ?_ ?_
     ·refine O _ ?_; clear O J K E
      exact ⟨_, sub_norm (slots := [1, 2, 3, 5, 6]) rfl rfl, rfl⟩
     trivial
    refine And.intro ?_ ?_
    ·show aCall _ _ _ _ _ _ _
     refine aR [] rfl rfl rfl (exprOf_spec G (.mk p1 n1 m1 l1) (by omega)) rfl rfl rfl rfl ?_; refine O _ ?_; clear O J K E; exact ⟨_, sub_norm (slots := [1, 2, 3, 5, 6]) rfl rfl, rfl⟩
    trivial
   refine And.intro ?_ ?_
   ·show aCall _ _ _ _ _ _ _
    refine aR [] rfl rfl rfl (stmtsOf_all G bd (by omega)) rfl rfl rfl rfl ?_
    show aCall _ _ _ _ _ _ _
    refine aR [] rfl rfl rfl (exprOf_spec G (.mk p1 n1 m1 l1) (by omega)) rfl rfl rfl rfl ?_; refine O _ ?_; clear O J K E; exact ⟨_, sub_norm (slots := [1, 2, 3, 5, 6]) rfl rfl, rfl⟩
   trivial
  rintro Z rfl; refine awp_accCell 6 1 9 1 rfl rfl rfl rfl ?_; refine awp_norm [1, 2, 3, 5, 6] rfl rfl ?_; refine awp_seq ?_; refine (awp_draw TT_ok mixed p23_11 [8, 10] (fun _ => true) (by kernel_rfl) fun E K J O => ?_); refine And.intro (by omega) (Exists.intro _ (And.intro (pcs_at rfl) ?_)); refine And.intro (And.intro ((by simp only [strs_length, List.length_nil]; omega)) ((by simp only [strs_length, List.length_nil, maxLen]; omega))) ?_; refine O _ (aN [1, 2, 3, 5, 6] rfl rfl ?_); clear O J K E; refine rgn fun E K J O => ?_; refine And.intro (And.intro ((by simp only [pcs, List.length_map, chunk_length]; omega)) ((by simp only [pcs, List.length_map, chunk_length, maxLen]; omega))) ?_; refine O _ (aN [1, 2, 3, 5] rfl rfl ?_); clear O J K E; refine rgn fun E K J O => ?_; refine O _ ?_; clear O J K E; exact ⟨_, Nat.lt_succ_self _, _, sub_pick (L := [0, 1, 2, 3, 4, 5]) (slots := [1, 2, 3, 5]) rfl rfl rfl rfl rfl, d2 ++ [⟨nm, ps, bd, .mk p1 n1 m1 l1⟩], e2b, rfl, by simp, by rw [← pcs_snoc, List.length_append, wrapId (by omega) (by omega)]; rfl⟩
 have h2' := of_decide_eq_false h2; rw [hll2] at h2'; obtain rfl : e2 = [] := List.eq_nil_of_length_eq_zero (by omega); rw [List.append_nil] at hl2; subst hl2; refine awp_exit ?_; refine awp_norm [2, 3] rfl rfl ?_; refine rgs fun E K J O => ?_; refine O _ (aN [2] rfl rfl ?_); clear O J K E; refine awp_ret ?_; exact ⟨_, [], _, [encP ⟨vars, arrays, procs, main⟩], rfl, rfl, rfl, rfl, rfl, PWs.refl _, rfl⟩
end Go.Abs
end
section
namespace Go.Abs
open Go Go.Proofs
def RG {s : ByteArray} {α : Type} (r : R s α) (Q : α → PS s → Prop) : Prop := match r with
 | .ok a q => Q a q
 | .bad _ _ => True
 | .out => False
theorem RG.bind {s : ByteArray} {α β : Type} {r : R s α} {f : α → PS s → R s β} {Q : α → PS s → Prop} {Q' : β → PS s → Prop} (h : RG r Q) (k : ∀ a q, Q a q → RG (f a q) Q') : RG (r.bind f) Q' := by
 cases r with
 | ok a q => exact k a q h
 | bad q c => trivial
 | out => exact h.elim
end Go.Abs
end
section
namespace Go.Abs
open Go Go.Proofs
end Go.Abs
end
section
namespace Go.Abs
open Go Go.Proofs
attribute [local irreducible] aCall AWp Sub Spec
/-- Is a name among names? -/
def hasB : List ByteArray → ByteArray → Bool
 | [], _ => false
 | y :: r, v => match y.toList == v.toList with
  | true => true
  | false => hasB r v
def idxI (v : ByteArray) : List ByteArray → Nat → Int
 | [], _ => -1
 | y :: r, i => match v.toList == y.toList with
  | true => i
  | false => idxI v r (i + 1)
/-- Which procedure has this name (-1: none)? -/
def procJ (v : ByteArray) : List Pc → Nat → Int
 | [], _ => -1
 | f :: r, i => match f.name.toList == v.toList with
  | true => i
  | false => procJ v r (i + 1)
theorem strs_at {l d e : List ByteArray} {x : ByteArray} (h : l = d ++ x :: e) : (strs l)[((d.length : Nat) : Int).toNat]? = some [str x] := by
 subst h; rw [Int.toNat_natCast]; simp [strs]
theorem beq_swap (a b : List UInt8) : (a == b) = (b == a) := by
 by_cases h : a = b
 ·subst h; rfl
 rw [beq_eq_false_iff_ne.2 h, beq_eq_false_iff_ne.2 (Ne.symm h)]
theorem idx_has (v : ByteArray) : ∀ (l : List ByteArray) (i : Nat), decide (idxI v l i ≥ 0) = hasB l v
 | [], _ => rfl
 | y :: r, i => by
  simp only [idxI, hasB, beq_swap v.toList y.toList]
  cases y.toList == v.toList with
  | true => exact decide_eq_true (show ((i : Int) ≥ 0) by omega)
  | false => exact idx_has v r (i + 1)
section
variable (G : Glob)
theorem index_spec (l : List ByteArray) (v : ByteArray) (hn : l.length ≤ 1073741824) : Spec Tryz.prog G 222 [.d (.sl 1 (strs l)), .d (str v)] [] (.ret (.d (num (idxI v l 0)))) [] := by
 obtain ⟨r, hG⟩ : ∃ r, idxI v l 0 = r := ⟨_, rfl⟩; rw [hG]; refine spec_of_awp2 TT_ok (N := 19) Tryz.func222 rfl (by rfl) (Nat.le_refl _) rfl ?_; refine rgs fun E K J O => ?_; refine O _ (aN [0, 1] rfl rfl ?_); clear O J K E; refine awp_seq ?_; refine rgs fun E K J O => ?_; refine O _ (aN [0, 1, 7, 8] rfl rfl ?_); clear O J K E; refine awp_block ?_; refine awp_loop (fun k Y => ∃ (d1 e1 : List ByteArray) , k = e1.length ∧ l = d1 ++ e1 ∧ idxI v e1 d1.length = r ∧ Y = ⟨[(0, .d (.sl 1 (strs l))), (1, .d (str v)), (7, .d (num (strs l).length)), (8, .d (num d1.length))], []⟩) (l.length) (⟨[], l, rfl, rfl, hG, rfl⟩) ?_; clear hG; rintro k Y ⟨d1, e1, rfl, hl1, hG, rfl⟩
 have hll1 : (strs l).length = d1.length + e1.length := by rw [strs_length, hl1, List.length_append]
 have hdl1 : d1.length + e1.length ≤ 1073741824 := by rw [hl1, List.length_append] at hn; exact hn
 refine rgs fun E K J O => ?_; refine O _ (aN [0, 1, 7, 8, 9] rfl rfl ?_); clear O J K E; refine awp_seq ?_; refine awp_cond2 rfl (onB_intro (fun h1 => ?_) (fun h1 => ?_))
 ·have h1' := of_decide_eq_true h1
  rw [hll1] at h1'
  cases e1 with
  | nil => simp only [List.length_nil] at h1'; omega
  | cons x e1b =>
  subst hl1; simp only [List.length_cons] at hdl1; simp only [idxI] at hG; refine awp_skip ?_; refine awp_seq ?_; refine awp_block ?_; refine rgs fun E K J O => ?_; refine O _ (aN [0, 1, 5, 7, 8] rfl rfl ?_); clear O J K E; refine rgs fun E K J O => ?_; refine And.intro (by omega) (Exists.intro _ (And.intro (strs_at rfl) ?_)); refine O _ (aN [0, 1, 5, 7, 8, 16] rfl rfl ?_); clear O J K E; refine awp_cond2 rfl (onB_intro (fun h2 => ?_) (fun h2 => ?_))
  ·simp only [h2] at hG
   refine rgs fun E K J O => ?_; refine O _ (aN [4] rfl rfl ?_); clear O J K E; refine awp_ret ?_; subst hG; exact ⟨_, [], _, [.d (num _)], rfl, rfl, rfl, rfl, rfl, PWs.refl _, rfl⟩
  simp only [h2] at hG; refine awp_skip ?_; refine rgn fun E K J O => ?_; refine O _ ?_; clear O J K E; exact ⟨_, Nat.lt_succ_self _, _, sub_norm (slots := [0, 1, 7, 8]) rfl rfl, d1 ++ [x], e1b, rfl, by simp, (by rw [List.length_append]; exact hG), by rw [List.length_append, wrapId (by omega) (by omega)]; rfl⟩
 have h1' := of_decide_eq_false h1; rw [hll1] at h1'; obtain rfl : e1 = [] := List.eq_nil_of_length_eq_zero (by omega); simp only [idxI] at hG; refine awp_exit ?_; refine awp_norm [] rfl rfl ?_; refine rgs fun E K J O => ?_; refine O _ (aN [4] rfl rfl ?_); clear O J K E; refine awp_ret ?_; subst hG; exact ⟨_, [], _, [.d (num _)], rfl, rfl, rfl, rfl, rfl, PWs.refl _, rfl⟩
theorem contains_spec (l : List ByteArray) (v : ByteArray) (hn : l.length ≤ 1073741824) : Spec Tryz.prog G 165 [.d (.sl 1 (strs l)), .d (str v)] [] (.ret (.d (.s (.bool (hasB l v))))) [] := by
 rw [← idx_has v l 0]; refine spec_of_awp2 TT_ok (N := 9) Tryz.func165 rfl (by rfl) (Nat.le_refl _) rfl ?_; refine rgs fun E K J O => ?_; refine O _ (aN [0, 1] rfl rfl ?_); clear O J K E; refine rgs fun E K J O => ?_; show aCall _ _ _ _ _ _ _; refine aR [] rfl rfl rfl (index_spec G l v hn) rfl rfl rfl rfl ?_; refine O _ (aN [4] rfl rfl ?_); clear O J K E; refine awp_ret ?_; exact ⟨_, [], _, [.d (.s (.bool _))], rfl, rfl, rfl, rfl, rfl, PWs.refl _, rfl⟩
theorem hasN_spec (l : List ByteArray) (v : ByteArray) (hn : l.length ≤ 1073741824) : Spec Tryz.prog G 102 [.d (.sl 1 (strs l)), .d (str v)] [] (.ret (.d (.s (.bool (hasB l v))))) [] := by
 obtain ⟨b, hG⟩ : ∃ b, hasB l v = b := ⟨_, rfl⟩; rw [hG]; refine spec_of_awp2 TT_ok (N := 18) Tryz.func102 rfl (by rfl) (Nat.le_refl _) rfl ?_; refine rgs fun E K J O => ?_; refine O _ (aN [0, 1] rfl rfl ?_); clear O J K E; refine awp_seq ?_; refine rgs fun E K J O => ?_; refine O _ (aN [0, 1, 5] rfl rfl ?_); clear O J K E; refine awp_block ?_; refine awp_loop (fun k Y => ∃ (d1 e1 : List ByteArray) , k = e1.length ∧ l = d1 ++ e1 ∧ hasB e1 v = b ∧ Y = ⟨[(0, .d (.sl 1 (strs l))), (1, .d (str v)), (5, .d (num d1.length))], []⟩) (l.length) (⟨[], l, rfl, rfl, hG, rfl⟩) ?_; clear hG; rintro k Y ⟨d1, e1, rfl, hl1, hG, rfl⟩
 have hll1 : (strs l).length = d1.length + e1.length := by rw [strs_length, hl1, List.length_append]
 have hdl1 : d1.length + e1.length ≤ 1073741824 := by rw [hl1, List.length_append] at hn; exact hn
 refine awp_seq ?_; refine rgs fun E K J O => ?_; refine O _ (aN [0, 1, 5, 9] rfl rfl ?_); clear O J K E; refine awp_cond2 rfl (onB_intro (fun h1 => ?_) (fun h1 => ?_))
 ·have h1' := of_decide_eq_true h1
  rw [hll1] at h1'
  cases e1 with
  | nil => simp only [List.length_nil] at h1'; omega
  | cons x e1b =>
  subst hl1; simp only [List.length_cons] at hdl1; simp only [hasB] at hG; refine awp_skip ?_; refine awp_seq ?_; refine awp_block ?_; refine rgs fun E K J O => ?_; refine And.intro (by omega) (Exists.intro _ (And.intro (strs_at rfl) ?_)); refine O _ (aN [0, 1, 5, 17] rfl rfl ?_); clear O J K E; refine awp_cond2 rfl (onB_intro (fun h2 => ?_) (fun h2 => ?_))
  ·simp only [h2] at hG
   refine rgs fun E K J O => ?_; refine O _ (aN [4] rfl rfl ?_); clear O J K E; refine awp_ret ?_; subst hG; exact ⟨_, [], _, [.d (.s (.bool _))], rfl, rfl, rfl, rfl, rfl, PWs.refl _, rfl⟩
  simp only [h2] at hG; refine awp_skip ?_; refine rgn fun E K J O => ?_; refine O _ ?_; clear O J K E; exact ⟨_, Nat.lt_succ_self _, _, sub_norm (slots := [0, 1, 5]) rfl rfl, d1 ++ [x], e1b, rfl, by simp, hG, by rw [List.length_append, wrapId (by omega) (by omega)]; rfl⟩
 have h1' := of_decide_eq_false h1; rw [hll1] at h1'; obtain rfl : e1 = [] := List.eq_nil_of_length_eq_zero (by omega); simp only [hasB] at hG; refine awp_exit ?_; refine awp_norm [] rfl rfl ?_; refine rgs fun E K J O => ?_; refine O _ (aN [4] rfl rfl ?_); clear O J K E; refine awp_ret ?_; subst hG; exact ⟨_, [], _, [.d (.s (.bool _))], rfl, rfl, rfl, rfl, rfl, PWs.refl _, rfl⟩
theorem procAt_spec (l : List Pc) (v : ByteArray) (hn : l.length ≤ 1073741824) : Spec Tryz.prog G 119 [.d (.sl 7 (pcs l)), .d (str v)] [] (.ret (.d (num (procJ v l 0)))) [] := by
 obtain ⟨r, hG⟩ : ∃ r, procJ v l 0 = r := ⟨_, rfl⟩; rw [hG]; refine spec_of_awp2 TT_ok (N := 20) Tryz.func119 rfl (by rfl) (Nat.le_refl _) rfl ?_; refine rgs fun E K J O => ?_; refine O _ (aN [0, 1] rfl rfl ?_); clear O J K E; refine awp_seq ?_; refine rgs fun E K J O => ?_; refine O _ (aN [0, 1, 5] rfl rfl ?_); clear O J K E; refine awp_block ?_; refine awp_loop (fun k Y => ∃ (d1 e1 : List Pc) , k = e1.length ∧ l = d1 ++ e1 ∧ procJ v e1 d1.length = r ∧ Y = ⟨[(0, .d (.sl 7 (pcs l))), (1, .d (str v)), (5, .d (num d1.length))], []⟩) (l.length) (⟨[], l, rfl, rfl, hG, rfl⟩) ?_; clear hG; rintro k Y ⟨d1, e1, rfl, hl1, hG, rfl⟩
 have hll1 : (pcs l).length = d1.length + e1.length := by rw [pcs_length, hl1, List.length_append]
 have hdl1 : d1.length + e1.length ≤ 1073741824 := by rw [hl1, List.length_append] at hn; exact hn
 refine awp_seq ?_; refine rgs fun E K J O => ?_; refine O _ (aN [0, 1, 5, 9] rfl rfl ?_); clear O J K E; refine awp_cond2 rfl (onB_intro (fun h1 => ?_) (fun h1 => ?_))
 ·have h1' := of_decide_eq_true h1
  rw [hll1] at h1'
  cases e1 with
  | nil => simp only [List.length_nil] at h1'; omega
  | cons x e1b =>
  obtain ⟨nm, ps, bd, ⟨o1, n1, m1, l1⟩⟩ := x; subst hl1; simp only [List.length_cons] at hdl1; simp only [procJ] at hG; refine awp_skip ?_; refine awp_seq ?_; refine awp_block ?_; refine rgs fun E K J O => ?_; refine And.intro (by omega) (Exists.intro _ (And.intro (pcs_at rfl) ?_)); refine O _ (aN [0, 1, 5, 18] rfl rfl ?_); clear O J K E; refine awp_cond2 rfl (onB_intro (fun h2 => ?_) (fun h2 => ?_))
  ·simp only [h2] at hG
   refine rgs fun E K J O => ?_; refine O _ (aN [4] rfl rfl ?_); clear O J K E; refine awp_ret ?_; subst hG; exact ⟨_, [], _, [.d (num _)], rfl, rfl, rfl, rfl, rfl, PWs.refl _, rfl⟩
  simp only [h2] at hG; refine awp_skip ?_; refine rgn fun E K J O => ?_; refine O _ ?_; clear O J K E; exact ⟨_, Nat.lt_succ_self _, _, sub_norm (slots := [0, 1, 5]) rfl rfl, d1 ++ [⟨nm, ps, bd, .mk o1 n1 m1 l1⟩], e1b, rfl, by simp, (by rw [List.length_append]; exact hG), by rw [List.length_append, wrapId (by omega) (by omega)]; rfl⟩
 have h1' := of_decide_eq_false h1; rw [hll1] at h1'; obtain rfl : e1 = [] := List.eq_nil_of_length_eq_zero (by omega); simp only [procJ] at hG; refine awp_exit ?_; refine awp_norm [] rfl rfl ?_; refine rgs fun E K J O => ?_; refine O _ (aN [4] rfl rfl ?_); clear O J K E; refine awp_ret ?_; subst hG; exact ⟨_, [], _, [.d (num _)], rfl, rfl, rfl, rfl, rfl, PWs.refl _, rfl⟩
theorem isProc_spec (f : Pc) (v : ByteArray) : Spec Tryz.prog G 223 [.d (.agg f.cs), .box 0 0] [.box 9 [.d (str v)]] (.ret (.d (.s (.bool (f.name.toList == v.toList))))) [.box 9 [.d (str v)]] := by
 obtain ⟨nm, ps, bd, ⟨o1, n1, m1, l1⟩⟩ := f; refine spec_of_awp2 TT_ok (N := 8) Tryz.func223 rfl (by rfl) (Nat.le_refl _) rfl ?_; refine rgs fun E K J O => ?_; refine O _ (aN [1, 2] rfl rfl ?_); clear O J K E; refine rgs fun E K J O => ?_; refine O _ (aN [3] rfl rfl ?_); clear O J K E; refine awp_ret ?_; exact ⟨_, [0], _, [.d (.s (.bool _))], rfl, rfl, rfl, rfl, rfl, PWs.refl _, rfl⟩
theorem indexP_spec (l : List Pc) (v : ByteArray) (hn : l.length ≤ 1073741824) : Spec Tryz.prog G 171 [.d (.sl 7 (pcs l)), .fn 223 [.box 0 0]] [.box 9 [.d (str v)]] (.ret (.d (num (procJ v l 0)))) [.box 9 [.d (str v)]] := by
 obtain ⟨r, hG⟩ : ∃ r, procJ v l 0 = r := ⟨_, rfl⟩; rw [hG]; refine spec_of_awp2 TT_ok (N := 19) Tryz.func171 rfl (by rfl) (Nat.le_refl _) rfl ?_; refine rgs fun E K J O => ?_; refine O _ (aN [0, 1] rfl rfl ?_); clear O J K E; refine awp_seq ?_; refine rgs fun E K J O => ?_; refine O _ (aN [0, 1, 7, 8] rfl rfl ?_); clear O J K E; refine awp_block ?_; refine awp_loop (fun k Y => ∃ (d1 e1 : List Pc) , k = e1.length ∧ l = d1 ++ e1 ∧ procJ v e1 d1.length = r ∧ Y = ⟨[(0, .d (.sl 7 (pcs l))), (1, .fn 223 [.box 0 0]), (7, .d (num (pcs l).length)), (8, .d (num d1.length))], [.box 9 [.d (str v)]]⟩) (l.length) (⟨[], l, rfl, rfl, hG, rfl⟩) ?_; clear hG; rintro k Y ⟨d1, e1, rfl, hl1, hG, rfl⟩
 have hll1 : (pcs l).length = d1.length + e1.length := by rw [pcs_length, hl1, List.length_append]
 have hdl1 : d1.length + e1.length ≤ 1073741824 := by rw [hl1, List.length_append] at hn; exact hn
 refine rgs fun E K J O => ?_; refine O _ (aN [0, 1, 7, 8, 9] rfl rfl ?_); clear O J K E; refine awp_seq ?_; refine awp_cond2 rfl (onB_intro (fun h1 => ?_) (fun h1 => ?_))
 ·have h1' := of_decide_eq_true h1
  rw [hll1] at h1'
  cases e1 with
  | nil => simp only [List.length_nil] at h1'; omega
  | cons x e1b =>
  obtain ⟨nm, ps, bd, ⟨o1, n1, m1, l1⟩⟩ := x; subst hl1; simp only [List.length_cons] at hdl1; simp only [procJ] at hG; refine awp_skip ?_; refine awp_seq ?_; refine awp_block ?_; refine rgs fun E K J O => ?_; refine O _ (aN [0, 1, 5, 7, 8] rfl rfl ?_); clear O J K E; refine rgs fun E K J O => ?_; refine And.intro (by omega) (Exists.intro _ (And.intro (pcs_at rfl) ?_))
  show aCall _ _ _ _ _ _ _
  refine aR [0] rfl rfl rfl (isProc_spec G ⟨nm, ps, bd, .mk o1 n1 m1 l1⟩ v) rfl rfl rfl rfl ?_; refine O _ (aN [0, 1, 5, 7, 8, 16] rfl rfl ?_); clear O J K E; refine awp_cond2 rfl (onB_intro (fun h2 => ?_) (fun h2 => ?_))
  ·simp only [h2] at hG
   refine rgs fun E K J O => ?_; refine O _ (aN [4] rfl rfl ?_); clear O J K E; refine awp_ret ?_; subst hG; exact ⟨_, [0], _, [.d (num _)], rfl, rfl, rfl, rfl, rfl, PWs.refl _, rfl⟩
  simp only [h2] at hG; refine awp_skip ?_; refine rgn fun E K J O => ?_; refine O _ ?_; clear O J K E; exact ⟨_, Nat.lt_succ_self _, _, sub_norm (slots := [0, 1, 7, 8]) rfl rfl, d1 ++ [⟨nm, ps, bd, .mk o1 n1 m1 l1⟩], e1b, rfl, by simp, (by rw [List.length_append]; exact hG), by rw [List.length_append, wrapId (by omega) (by omega)]; rfl⟩
 have h1' := of_decide_eq_false h1; rw [hll1] at h1'; obtain rfl : e1 = [] := List.eq_nil_of_length_eq_zero (by omega); simp only [procJ] at hG; refine awp_exit ?_; refine awp_norm [] rfl rfl ?_; refine rgs fun E K J O => ?_; refine O _ (aN [4] rfl rfl ?_); clear O J K E; refine awp_ret ?_; subst hG; exact ⟨_, [0], _, [.d (num _)], rfl, rfl, rfl, rfl, rfl, PWs.refl _, rfl⟩
/-- A place of names, ay data. -/
def PlC (vs ay : List ByteArray) (ps : List Pc) : List Data := [.sl 1 (strs vs), .sl 1 (strs ay), .sl 7 (pcs ps)]
theorem proc_spec (vs ay : List ByteArray) (ps : List Pc) (v : ByteArray) (hn : ps.length ≤ 1073741824) : Spec Tryz.prog G 166 [.d (.agg (PlC vs ay ps)), .d (str v)] [] (.ret (.d (num (procJ v ps 0)))) [] := by
 refine spec_of_awp2 TT_ok (N := 9) Tryz.func166 rfl (by rfl) (Nat.le_refl _) rfl ?_; refine rgs fun E K J O => ?_; refine O _ (aN [2, 3] rfl rfl ?_); clear O J K E; refine rgs fun E K J O => ?_; show aCall _ _ _ _ _ _ _; refine aR [1] rfl rfl rfl (indexP_spec G ps v hn) rfl rfl rfl rfl ?_; refine O _ (aN [4] rfl rfl ?_); clear O J K E; refine awp_ret ?_; exact ⟨_, [], _, [.d (num _)], rfl, rfl, rfl, rfl, rfl, PWs.refl _, rfl⟩
end
end Go.Abs
end
section
namespace Go.Abs
open Go Go.Proofs
attribute [local irreducible] aCall AWp Sub Spec
/-- The first of some terms at which a test holds (-1: none). -/
def idxG (g : Ex → Bool) : List Ex → Nat → Int
 | [], _ => -1
 | e :: r, i => match g e with
  | true => i
  | false => idxG g r (i + 1)
theorem idx_any (g : Ex → Bool) : ∀ (l : List Ex) (i : Nat), decide (idxG g l i ≥ 0) = l.any g
 | [], _ => rfl
 | e :: r, i => by
  have key : ∀ b : Bool, decide ((match b with
    | true => (i : Int)
    | false => idxG g r (i + 1)) ≥ 0) = (b || r.any g) := fun b => by
   cases b with
   | true => exact decide_eq_true (show ((i : Int) ≥ 0) by omega)
   | false => simpa using idx_any g r (i + 1)
  exact key (g e)
mutual
/-- Are all names of a term known? -/
def tmN (vs ay : List ByteArray) : Ex → Bool
 | .mk op _ nm l => (match op.toList == (⟨#[118, 97, 114]⟩ : ByteArray).toList with
  | true => hasB vs nm
  | false => match op.toList == (⟨#[97, 116]⟩ : ByteArray).toList with
   | true => hasB ay nm
   | false => true) && tmsN vs ay l
def tmsN (vs ay : List ByteArray) : List Ex → Bool
 | [] => true
 | e :: r => tmN vs ay e && tmsN vs ay r
end
theorem tms_all (vs ay : List ByteArray) : ∀ l : List Ex, l.any (fun e => !tmN vs ay e) = !tmsN vs ay l
 | [] => rfl
 | e :: r => by
  simp only [List.any_cons, tmsN, tms_all vs ay r]
  cases tmN vs ay e <;> rfl
def PlR (vs ay : List ByteArray) (ps : List Pc) : List Row := [.box 196 [.d (.sl 1 (strs vs)), .d (.sl 1 (strs ay)), .d (.sl 7 (pcs ps))]]
section
variable (G : Glob)
theorem indexE_spec (c : FuncId) (vs ay : List ByteArray) (ps : List Pc) (g : Ex → Bool) (l : List Ex) (hc : ∀ x, x ∈ l → Spec Tryz.prog G c [.d (.agg x.cs), .box 0 0] (PlR vs ay ps) (.ret (.d (.s (.bool (g x))))) (PlR vs ay ps)) (hn : l.length ≤ 1073741824) : Spec Tryz.prog G 224 [.d (.sl 4 (exs l)), .fn c [.box 0 0]] (PlR vs ay ps) (.ret (.d (num (idxG g l 0)))) (PlR vs ay ps) := by
 obtain ⟨r, hG⟩ : ∃ r, idxG g l 0 = r := ⟨_, rfl⟩; rw [hG]; refine spec_of_awp2 TT_ok (N := 19) Tryz.func224 rfl (by rfl) (Nat.le_refl _) rfl ?_; refine rgs fun E K J O => ?_; refine O _ (aN [0, 1] rfl rfl ?_); clear O J K E; refine awp_seq ?_; refine rgs fun E K J O => ?_; refine O _ (aN [0, 1, 7, 8] rfl rfl ?_); clear O J K E; refine awp_block ?_; refine awp_loop (fun k Y => ∃ (d1 e1 : List Ex) , k = e1.length ∧ l = d1 ++ e1 ∧ idxG g e1 d1.length = r ∧ Y = ⟨[(0, .d (.sl 4 (exs l))), (1, .fn c [.box 0 0]), (7, .d (num (exs l).length)), (8, .d (num d1.length))], (PlR vs ay ps)⟩) (l.length) (⟨[], l, rfl, rfl, hG, rfl⟩) ?_; clear hG; rintro k Y ⟨d1, e1, rfl, hl1, hG, rfl⟩
 have hll1 : (exs l).length = d1.length + e1.length := by rw [ex_len, hl1, List.length_append]
 have hdl1 : d1.length + e1.length ≤ 1073741824 := by rw [hl1, List.length_append] at hn; exact hn
 refine rgs fun E K J O => ?_; refine O _ (aN [0, 1, 7, 8, 9] rfl rfl ?_); clear O J K E; refine awp_seq ?_; refine awp_cond2 rfl (onB_intro (fun h1 => ?_) (fun h1 => ?_))
 ·have h1' := of_decide_eq_true h1
  rw [hll1] at h1'
  cases e1 with
  | nil => simp only [List.length_nil] at h1'; omega
  | cons x e1b =>
  obtain ⟨p1, n1, m1, l1⟩ := x; subst hl1; simp only [List.length_cons] at hdl1; simp only [idxG] at hG; refine awp_skip ?_; refine awp_seq ?_; refine awp_block ?_; refine rgs fun E K J O => ?_; refine O _ (aN [0, 1, 5, 7, 8] rfl rfl ?_); clear O J K E; refine rgs fun E K J O => ?_; refine And.intro (by omega) (Exists.intro _ (And.intro (exs_at rfl) ?_))
  show aCall _ _ _ _ _ _ _
  refine aR [0] rfl rfl rfl (hc (.mk p1 n1 m1 l1) (by simp)) rfl rfl rfl rfl ?_; refine O _ (aN [0, 1, 5, 7, 8, 16] rfl rfl ?_); clear O J K E; refine awp_cond2 rfl (onB_intro (fun h2 => ?_) (fun h2 => ?_))
  ·simp only [h2] at hG
   refine rgs fun E K J O => ?_; refine O _ (aN [4] rfl rfl ?_); clear O J K E; refine awp_ret ?_; subst hG; exact ⟨_, [0], _, [.d (num _)], rfl, rfl, rfl, rfl, rfl, PWs.refl _, rfl⟩
  simp only [h2] at hG; refine awp_skip ?_; refine rgn fun E K J O => ?_; refine O _ ?_; clear O J K E; exact ⟨_, Nat.lt_succ_self _, _, sub_norm (slots := [0, 1, 7, 8]) rfl rfl, d1 ++ [.mk p1 n1 m1 l1], e1b, rfl, by simp, (by rw [List.length_append]; exact hG), by rw [List.length_append, wrapId (by omega) (by omega)]; rfl⟩
 have h1' := of_decide_eq_false h1; rw [hll1] at h1'; obtain rfl : e1 = [] := List.eq_nil_of_length_eq_zero (by omega); simp only [idxG] at hG; refine awp_exit ?_; refine awp_norm [] rfl rfl ?_; refine rgs fun E K J O => ?_; refine O _ (aN [4] rfl rfl ?_); clear O J K E; refine awp_ret ?_; subst hG; exact ⟨_, [0], _, [.d (num _)], rfl, rfl, rfl, rfl, rfl, PWs.refl _, rfl⟩
theorem containsE_spec (c : FuncId) (vs ay : List ByteArray) (ps : List Pc) (g : Ex → Bool) (l : List Ex) (hc : ∀ x, x ∈ l → Spec Tryz.prog G c [.d (.agg x.cs), .box 0 0] (PlR vs ay ps) (.ret (.d (.s (.bool (g x))))) (PlR vs ay ps)) (hn : l.length ≤ 1073741824) : Spec Tryz.prog G 167 [.d (.sl 4 (exs l)), .fn c [.box 0 0]] (PlR vs ay ps) (.ret (.d (.s (.bool (l.any g))))) (PlR vs ay ps) := by
 rw [← idx_any g l 0]; refine spec_of_awp2 TT_ok (N := 9) Tryz.func167 rfl (by rfl) (Nat.le_refl _) rfl ?_; refine rgs fun E K J O => ?_; refine O _ (aN [0, 1] rfl rfl ?_); clear O J K E; refine rgs fun E K J O => ?_; show aCall _ _ _ _ _ _ _; refine aR [0] rfl rfl rfl (indexE_spec G c vs ay ps g l hc hn) rfl rfl rfl rfl ?_; refine O _ (aN [4] rfl rfl ?_); clear O J K E; refine awp_ret ?_; exact ⟨_, [0], _, [.d (.s (.bool _))], rfl, rfl, rfl, rfl, rfl, PWs.refl _, rfl⟩
def TmOk (vs ay : List ByteArray) (ps : List Pc) (m : Nat) : Prop := ∀ e : Ex, fuE e ≤ m → wtE e ≤ 1000000000 → Spec Tryz.prog G 100 [.d (.agg (PlC vs ay ps)), .d (.agg e.cs)] [] (.ret (.d (.s (.bool (tmN vs ay e))))) []
theorem notTerm_spec (vs ay : List ByteArray) (ps : List Pc) (e : Ex) (b : Bool) (h : Spec Tryz.prog G 100 [.d (.agg (PlC vs ay ps)), .d (.agg e.cs)] [] (.ret (.d (.s (.bool b)))) []) : Spec Tryz.prog G 169 [.d (.agg e.cs), .box 0 0] (PlR vs ay ps) (.ret (.d (.s (.bool (!b))))) (PlR vs ay ps) := by
 obtain ⟨op, n, nm, l⟩ := e; refine spec_of_awp2 TT_ok (N := 8) Tryz.func169 rfl (by rfl) (Nat.le_refl _) rfl ?_; refine rgs fun E K J O => ?_; refine O _ (aN [1, 2] rfl rfl ?_); clear O J K E; refine rgs fun E K J O => ?_; show aCall _ _ _ _ _ _ _; refine aR [] rfl rfl rfl h rfl rfl rfl rfl ?_; refine O _ (aN [3] rfl rfl ?_); clear O J K E; refine awp_ret ?_; exact ⟨_, [0], _, [.d (.s (.bool _))], rfl, rfl, rfl, rfl, rfl, PWs.refl _, rfl⟩
theorem notTerm2_spec (vs ay : List ByteArray) (ps : List Pc) (e : Ex) (b : Bool) (h : Spec Tryz.prog G 100 [.d (.agg (PlC vs ay ps)), .d (.agg e.cs)] [] (.ret (.d (.s (.bool b)))) []) : Spec Tryz.prog G 168 [.d (.agg e.cs), .box 0 0] (PlR vs ay ps) (.ret (.d (.s (.bool (!b))))) (PlR vs ay ps) := by
 obtain ⟨op, n, nm, l⟩ := e; refine spec_of_awp2 TT_ok (N := 8) Tryz.func168 rfl (by rfl) (Nat.le_refl _) rfl ?_; refine rgs fun E K J O => ?_; refine O _ (aN [1, 2] rfl rfl ?_); clear O J K E; refine rgs fun E K J O => ?_; show aCall _ _ _ _ _ _ _; refine aR [] rfl rfl rfl h rfl rfl rfl rfl ?_; refine O _ (aN [3] rfl rfl ?_); clear O J K E; refine awp_ret ?_; exact ⟨_, [0], _, [.d (.s (.bool _))], rfl, rfl, rfl, rfl, rfl, PWs.refl _, rfl⟩
theorem fuL_mem : ∀ {l : List Ex} {x : Ex}, x ∈ l → fuE x + 1 ≤ fuL l
 | e :: r, x, h => by
  simp only [fuL]
  rcases List.mem_cons.1 h with rfl | h
  ·omega
  have := fuL_mem h; omega
theorem wtL_mem : ∀ {l : List Ex} {x : Ex}, x ∈ l → wtE x ≤ wtL l
 | e :: r, x, h => by
  simp only [wtL]
  rcases List.mem_cons.1 h with rfl | h
  ·omega
  have := wtL_mem h; omega
theorem pterm_step (vs ay : List ByteArray) (ps : List Pc) (hv : vs.length ≤ 1073741824) (ha : ay.length ≤ 1073741824) (m : Nat) (ih : TmOk G vs ay ps m) : TmOk G vs ay ps (m + 1) := by
 intro e hf hw; obtain ⟨op, n, nm, l⟩ := e; simp only [fuE] at hf; simp only [wtE] at hw; have hlen := wtL_len l; have hs := containsE_spec G 169 vs ay ps (fun e => !tmN vs ay e) l (fun x hx => notTerm_spec G vs ay ps x _ (ih x (by have := fuL_mem hx; omega) (by have := wtL_mem hx; omega))) (by omega); rw [tms_all] at hs; obtain ⟨b, hG⟩ : ∃ b, tmN vs ay (.mk op n nm l) = b := ⟨_, rfl⟩; rw [hG]; simp only [tmN] at hG; refine spec_of_awp2 TT_ok (N := 30) Tryz.func100 rfl (by rfl) (Nat.le_refl _) rfl ?_; refine rgs fun E K J O => ?_; refine O _ (aN [2, 3] rfl rfl ?_); clear O J K E; refine rgs fun E K J O => ?_; refine O _ (aN [2, 3, 5] rfl rfl ?_); clear O J K E; refine awp_seq ?_; refine rgs fun E K J O => ?_; refine O _ (aN [2, 3, 5, 7] rfl rfl ?_); clear O J K E; refine awp_block ?_; refine rgs fun E K J O => ?_; refine O _ (aN [2, 3, 5, 7, 8] rfl rfl ?_); clear O J K E; refine awp_cond2 rfl (onB_intro (fun h1 => ?_) (fun h1 => ?_))
 ·simp only [h1] at hG
  refine rgn fun E K J O => ?_; show aCall _ _ _ _ _ _ _
  first
   | refine aR [] rfl rfl rfl (contains_spec G vs nm hv) rfl rfl rfl rfl ?_
   | refine aR [] rfl rfl rfl (contains_spec G ay nm ha) rfl rfl rfl rfl ?_
  refine O _ (aN [2, 3, 5] rfl rfl ?_); clear O J K E; refine rgs fun E K J O => ?_; refine onB_intro (fun h2 => ?_) (fun h2 => ?_)
  ·simp only [h2, bn] at hG
   show aCall _ _ _ _ _ _ _
   refine aR [0] rfl rfl rfl hs rfl rfl rfl rfl ?_; refine O _ (aN [4] rfl rfl ?_); clear O J K E; refine awp_ret ?_
   (try simp only [bn] at hG)
   subst hG; exact ⟨_, [], _, [.d (.s (.bool _))], rfl, rfl, rfl, rfl, rfl, by (first | exact PWs.refl _ | (simp only [bn]; exact PWs.refl _)), rfl⟩
  simp only [h2, bn] at hG; refine O _ (aN [4] rfl rfl ?_); clear O J K E; refine awp_ret ?_
  (try simp only [bn] at hG)
  subst hG; exact ⟨_, [], _, [.d (.s (.bool _))], rfl, rfl, rfl, rfl, rfl, by (first | exact PWs.refl _ | (simp only [bn]; exact PWs.refl _)), rfl⟩
 simp only [h1] at hG; refine rgs fun E K J O => ?_; refine O _ (aN [2, 3, 5, 15] rfl rfl ?_); clear O J K E; refine awp_cond2 rfl (onB_intro (fun h2 => ?_) (fun h2 => ?_))
 ·simp only [h2] at hG
  refine rgn fun E K J O => ?_; show aCall _ _ _ _ _ _ _
  first
   | refine aR [] rfl rfl rfl (contains_spec G vs nm hv) rfl rfl rfl rfl ?_
   | refine aR [] rfl rfl rfl (contains_spec G ay nm ha) rfl rfl rfl rfl ?_
  refine O _ (aN [2, 3, 5] rfl rfl ?_); clear O J K E; refine rgs fun E K J O => ?_; refine onB_intro (fun h3 => ?_) (fun h3 => ?_)
  ·simp only [h3, bn] at hG
   show aCall _ _ _ _ _ _ _
   refine aR [0] rfl rfl rfl hs rfl rfl rfl rfl ?_; refine O _ (aN [4] rfl rfl ?_); clear O J K E; refine awp_ret ?_
   (try simp only [bn] at hG)
   subst hG; exact ⟨_, [], _, [.d (.s (.bool _))], rfl, rfl, rfl, rfl, rfl, by (first | exact PWs.refl _ | (simp only [bn]; exact PWs.refl _)), rfl⟩
  simp only [h3, bn] at hG; refine O _ (aN [4] rfl rfl ?_); clear O J K E; refine awp_ret ?_
  (try simp only [bn] at hG)
  subst hG; exact ⟨_, [], _, [.d (.s (.bool _))], rfl, rfl, rfl, rfl, rfl, by (first | exact PWs.refl _ | (simp only [bn]; exact PWs.refl _)), rfl⟩
 simp only [h2, bn] at hG; refine awp_skip ?_; refine rgs fun E K J O => ?_; show aCall _ _ _ _ _ _ _; refine aR [0] rfl rfl rfl hs rfl rfl rfl rfl ?_; refine O _ (aN [4] rfl rfl ?_); clear O J K E; refine awp_ret ?_
 (try simp only [bn] at hG)
 subst hG; exact ⟨_, [], _, [.d (.s (.bool _))], rfl, rfl, rfl, rfl, rfl, by (first | exact PWs.refl _ | (simp only [bn]; exact PWs.refl _)), rfl⟩
theorem pterm_all (vs ay : List ByteArray) (ps : List Pc) (hv : vs.length ≤ 1073741824) (ha : ay.length ≤ 1073741824) : ∀ m, TmOk G vs ay ps m
 | 0 => fun e h => by obtain ⟨_, _, _, _⟩ := e; simp only [fuE] at h; omega
 | m + 1 => pterm_step G vs ay ps hv ha m (pterm_all vs ay ps hv ha m)
theorem place_term (vs ay : List ByteArray) (ps : List Pc) (hv : vs.length ≤ 1073741824) (ha : ay.length ≤ 1073741824) (e : Ex) (hw : wtE e ≤ 1000000000) : Spec Tryz.prog G 100 [.d (.agg (PlC vs ay ps)), .d (.agg e.cs)] [] (.ret (.d (.s (.bool (tmN vs ay e))))) [] := pterm_all G vs ay ps hv ha (fuE e) e (Nat.le_refl _) hw
theorem place_terms (vs ay : List ByteArray) (ps : List Pc) (hv : vs.length ≤ 1073741824) (ha : ay.length ≤ 1073741824) (l : List Ex) (hw : wtL l ≤ 1000000000) : Spec Tryz.prog G 167 [.d (.sl 4 (exs l)), .fn 168 [.box 0 0]] (PlR vs ay ps) (.ret (.d (.s (.bool (!tmsN vs ay l))))) (PlR vs ay ps) := by
 have hlen := wtL_len l; have hs := containsE_spec G 168 vs ay ps (fun e => !tmN vs ay e) l (fun x hx => notTerm2_spec G vs ay ps x _ (place_term G vs ay ps hv ha x (by have := wtL_mem hx; omega))) (by omega)
 rwa [tms_all] at hs
def RtOk (vs ay : List ByteArray) (m : Nat) : Prop := ∀ e : Ex, fuE e ≤ m → wtE e ≤ 1000000000 → Spec Tryz.prog G 104 [.d (.agg e.cs), .d (.sl 1 (strs vs)), .d (.sl 1 (strs ay))] [] (.ret (.d (.s (.bool (tmN vs ay e))))) []
theorem rterm_step (vs ay : List ByteArray) (hv : vs.length ≤ 1073741824) (ha : ay.length ≤ 1073741824) (m : Nat) (ih : RtOk G vs ay m) : RtOk G vs ay (m + 1) := by
 intro e hf hw; obtain ⟨op, n, nm, l⟩ := e; simp only [fuE] at hf; simp only [wtE] at hw; have hlen := wtL_len l
 have hn : l.length ≤ 1073741824 := by omega
 obtain ⟨b, hG⟩ : ∃ b, tmN vs ay (.mk op n nm l) = b := ⟨_, rfl⟩; rw [hG]; simp only [tmN] at hG; refine spec_of_awp2 TT_ok (N := 52) Tryz.func104 rfl (by rfl) (Nat.le_refl _) rfl ?_; refine rgs fun E K J O => ?_; refine O _ (aN [1, 2, 3] rfl rfl ?_); clear O J K E; refine rgs fun E K J O => ?_; show aCall _ _ _ _ _ _ _
 first
  | refine aR [] rfl rfl rfl (hasN_spec G vs nm hv) rfl rfl rfl rfl ?_
  | refine aR [] rfl rfl rfl (hasN_spec G ay nm ha) rfl rfl rfl rfl ?_
 refine O _ (aN [1, 2, 3, 7] rfl rfl ?_); clear O J K E; refine rgs fun E K J O => ?_; show aCall _ _ _ _ _ _ _
 first
  | refine aR [] rfl rfl rfl (hasN_spec G vs nm hv) rfl rfl rfl rfl ?_
  | refine aR [] rfl rfl rfl (hasN_spec G ay nm ha) rfl rfl rfl rfl ?_
 refine O _ (aN [1, 2, 3, 7, 8] rfl rfl ?_); clear O J K E; refine awp_cut (fun Z => Z = ⟨[(1, .d (.sl 1 (strs vs))), (2, .d (.sl 1 (strs ay))), (3, .box 0 0)], [.box 143 [.d (str op), .d (num n), .d (str nm), .d (.sl 4 (exs l))]]⟩ ∧ tmsN vs ay l = b) ?_ ?_
 ·refine rgs fun E K J O => ?_
  refine onB_intro (fun h1 => ?_) (fun h1 => ?_)
  ·try simp only [Bool.not_eq_true', Bool.not_eq_false'] at h1
   try simp only [h1] at hG
   refine onB_intro (fun h2 => ?_) (fun h2 => ?_)
   ·try simp only [Bool.not_eq_true'] at h2
    try simp only [h2, bn] at hG
    refine O _ (aN [1, 2, 3, 34] rfl rfl ?_); clear O J K E; refine awp_cond rfl ?_; refine rgs fun E K J O => ?_; refine O _ (aN [6] rfl rfl ?_); clear O J K E; refine awp_ret ?_
    (try simp only [bn] at hG)
    subst hG; exact ⟨_, [], _, [.d (.s (.bool _))], rfl, rfl, rfl, rfl, rfl, by (first | exact PWs.refl _ | (simp only [bn]; exact PWs.refl _)), rfl⟩
   try simp only [Bool.not_eq_false'] at h2
   try simp only [h2, bn] at hG
   refine onB_intro (fun h3 => ?_) (fun h3 => ?_)
   ·try simp only [Bool.not_eq_true', Bool.not_eq_false'] at h3
    try simp only [h3, bn] at hG
    have z1 := eq_of_beq h1; rw [z1, show ((⟨#[118, 97, 114]⟩ : ByteArray).toList == (⟨#[97, 116]⟩ : ByteArray).toList) = false from by kernel_rfl] at h3; cases h3
   try simp only [Bool.not_eq_true', Bool.not_eq_false'] at h3
   try simp only [h3, bn] at hG
   refine O _ (aN [1, 2, 3, 34] rfl rfl ?_); clear O J K E; refine awp_cond rfl ?_; refine awp_skip ?_; exact ⟨_, sub_norm (slots := [1, 2, 3]) rfl rfl, rfl, hG⟩
  try simp only [Bool.not_eq_true', Bool.not_eq_false'] at h1
  try simp only [h1] at hG
  refine onB_intro (fun h2 => ?_) (fun h2 => ?_)
  ·try simp only [Bool.not_eq_true', Bool.not_eq_false'] at h2
   try simp only [h2] at hG
   refine O _ (aN [1, 2, 3, 34] rfl rfl ?_); clear O J K E; refine awp_cond2 rfl (onB_intro (fun h3 => ?_) (fun h3 => ?_))
   ·try simp only [Bool.not_eq_true'] at h3
    try simp only [h3, bn] at hG
    refine rgs fun E K J O => ?_; refine O _ (aN [6] rfl rfl ?_); clear O J K E; refine awp_ret ?_
    (try simp only [bn] at hG)
    subst hG; exact ⟨_, [], _, [.d (.s (.bool _))], rfl, rfl, rfl, rfl, rfl, by (first | exact PWs.refl _ | (simp only [bn]; exact PWs.refl _)), rfl⟩
   try simp only [Bool.not_eq_false'] at h3
   try simp only [h3, bn] at hG
   refine awp_skip ?_; exact ⟨_, sub_norm (slots := [1, 2, 3]) rfl rfl, rfl, hG⟩
  try simp only [Bool.not_eq_true', Bool.not_eq_false'] at h2
  try simp only [h2, bn] at hG
  refine O _ (aN [1, 2, 3, 34] rfl rfl ?_); clear O J K E; refine awp_cond rfl ?_; refine awp_skip ?_; exact ⟨_, sub_norm (slots := [1, 2, 3]) rfl rfl, rfl, hG⟩
 clear hG; rintro Z ⟨rfl, hG⟩; refine awp_seq ?_; refine rgs fun E K J O => ?_; refine O _ (aN [1, 2, 3, 9] rfl rfl ?_); clear O J K E; refine awp_block ?_; refine awp_loop (fun k Y => ∃ (d1 e1 : List Ex) , k = e1.length ∧ l = d1 ++ e1 ∧ tmsN vs ay e1 = b ∧ Y = ⟨[(1, .d (.sl 1 (strs vs))), (2, .d (.sl 1 (strs ay))), (3, .box 0 0), (9, .d (num d1.length))], [.box 143 [.d (str op), .d (num n), .d (str nm), .d (.sl 4 (exs l))]]⟩) (l.length) (⟨[], l, rfl, rfl, hG, rfl⟩) ?_; clear hG; rintro k Y ⟨d1, e1, rfl, hl1, hG, rfl⟩
 have hll1 : (exs l).length = d1.length + e1.length := by rw [ex_len, hl1, List.length_append]
 have hdl1 : d1.length + e1.length ≤ 1073741824 := by rw [hl1, List.length_append] at hn; exact hn
 refine awp_seq ?_; refine rgs fun E K J O => ?_; refine O _ (aN [1, 2, 3, 9, 39] rfl rfl ?_); clear O J K E; refine awp_cond2 rfl (onB_intro (fun h1 => ?_) (fun h1 => ?_))
 ·have h1' := of_decide_eq_true h1
  rw [hll1] at h1'
  cases e1 with
  | nil => simp only [List.length_nil] at h1'; omega
  | cons x e1b =>
  obtain ⟨p1, n1, m1, l1⟩ := x; subst hl1; simp only [List.length_cons] at hdl1; simp only [tmsN] at hG; refine awp_skip ?_; refine awp_seq ?_; refine awp_block ?_; refine rgs fun E K J O => ?_; refine And.intro (by omega) (Exists.intro _ (And.intro (exs_at rfl) ?_))
  show aCall _ _ _ _ _ _ _
  refine aR [] rfl rfl rfl (ih (.mk p1 n1 m1 l1) (by have := fuL_mem (l := d1 ++ .mk p1 n1 m1 l1 :: e1b) (x := .mk p1 n1 m1 l1) (by simp); omega) (by have := wtL_mem (l := d1 ++ .mk p1 n1 m1 l1 :: e1b) (x := .mk p1 n1 m1 l1) (by simp); omega)) rfl rfl rfl rfl ?_; refine O _ (aN [1, 2, 3, 9, 10] rfl rfl ?_); clear O J K E; refine rgs fun E K J O => ?_; refine O _ (aN [1, 2, 3, 9, 51] rfl rfl ?_); clear O J K E; refine awp_cond2 rfl (onB_intro (fun h2 => ?_) (fun h2 => ?_))
  ·try simp only [Bool.not_eq_true'] at h2
   try simp only [h2, bn] at hG
   refine rgs fun E K J O => ?_; refine O _ (aN [6] rfl rfl ?_); clear O J K E; refine awp_ret ?_
   (try simp only [bn] at hG)
   subst hG; exact ⟨_, [], _, [.d (.s (.bool _))], rfl, rfl, rfl, rfl, rfl, by (first | exact PWs.refl _ | (simp only [bn]; exact PWs.refl _)), rfl⟩
  try simp only [Bool.not_eq_false'] at h2
  try simp only [h2, bn] at hG
  refine awp_skip ?_; refine rgn fun E K J O => ?_; refine O _ ?_; clear O J K E; exact ⟨_, Nat.lt_succ_self _, _, sub_norm (slots := [1, 2, 3, 9]) rfl rfl, d1 ++ [.mk p1 n1 m1 l1], e1b, rfl, by simp, hG, by rw [List.length_append, wrapId (by omega) (by omega)]; rfl⟩
 have h1' := of_decide_eq_false h1; rw [hll1] at h1'; obtain rfl : e1 = [] := List.eq_nil_of_length_eq_zero (by omega); simp only [tmsN] at hG; refine awp_exit ?_; refine awp_norm [] rfl rfl ?_; refine rgs fun E K J O => ?_; refine O _ (aN [6] rfl rfl ?_); clear O J K E; refine awp_ret ?_
 (try simp only [bn] at hG)
 subst hG; exact ⟨_, [], _, [.d (.s (.bool _))], rfl, rfl, rfl, rfl, rfl, by (first | exact PWs.refl _ | (simp only [bn]; exact PWs.refl _)), rfl⟩
theorem rterm_all (vs ay : List ByteArray) (hv : vs.length ≤ 1073741824) (ha : ay.length ≤ 1073741824) : ∀ m, RtOk G vs ay m
 | 0 => fun e h => by obtain ⟨_, _, _, _⟩ := e; simp only [fuE] at h; omega
 | m + 1 => rterm_step G vs ay hv ha m (rterm_all vs ay hv ha m)
end
end Go.Abs
end
section
namespace Go.Abs
open Go Go.Proofs
attribute [local irreducible] aCall AWp Sub Spec
def tsE : List Ts → List Ex
 | [] => []
 | t :: r => t.a :: t.b :: tsE r
def condE : List (List Ts) → List Ex
 | [] => []
 | r :: c => tsE r ++ condE c
/-- The terms of a statement, its own. -/
def Sm.terms : Sm → List Ex
 | .mk _ _ _ args cond _ _ => args ++ condE cond
theorem tsE_app : ∀ a b : List Ts, tsE (a ++ b) = tsE a ++ tsE b
 | [], _ => rfl
 | t :: a, b => by simp only [List.cons_append, tsE, tsE_app a b]
theorem condE_app : ∀ a b : List (List Ts), condE (a ++ b) = condE a ++ condE b
 | [], _ => rfl
 | t :: a, b => by simp only [List.cons_append, condE, condE_app a b, List.append_assoc]
theorem condE_snoc (d : List (List Ts)) (x : List Ts) : condE (d ++ [x]) = condE d ++ tsE x := by rw [condE_app]; simp [condE]
theorem exs_app : ∀ a b : List Ex, exs (a ++ b) = exs a ++ exs b
 | [], _ => rfl
 | t :: a, b => by simp only [List.cons_append, exs, exs_app a b]
theorem tsx (A : List Ex) (d : List Ts) (t : Ts) : exs (A ++ tsE (d ++ [t])) = exs (A ++ tsE d) ++ [t.a.cs, t.b.cs] := by rw [tsE_app, ← List.append_assoc, exs_app _ (tsE [t])]; rfl
theorem tsE_len : ∀ r : List Ts, (tsE r).length ≤ wtR r
 | [] => Nat.zero_le _
 | t :: r => by have := tsE_len r; simp only [tsE, wtR, wtT, List.length_cons]; omega
theorem condE_len : ∀ c : List (List Ts), (condE c).length ≤ wtC c
 | [] => Nat.zero_le _
 | r :: c => by have := condE_len c; have := tsE_len r; simp only [condE, wtC, List.length_append]; omega
theorem nil_exs {l : List Ex} (h : nilOf (.d (.sl 4 (exs l))) true) : l = [] := by
 have := eq_of_beq (nil_len h); rw [ex_len] at this; exact List.eq_nil_of_length_eq_zero (by omega)
section
variable (G : Glob)
theorem cloneE_spec (l : List Ex) (hn : l.length ≤ 1073741824) : Spec Tryz.prog G 174 [.d (.sl 4 (exs l))] [] (.ret (.acc 0)) [.acc 157 4 (exs l)] := by
 refine spec_of_awp2 TT_ok (N := 8) Tryz.func174 rfl (by rfl) (Nat.zero_le _) rfl ?_; refine rgs fun E K J O => ?_; refine O _ (aN [0] rfl rfl ?_); clear O J K E; refine awp_seq ?_; refine rgs fun E K J O => ?_; refine pNilS_sl (fun hb => ?_) ?_
 ·obtain rfl := nil_exs hb
  refine O _ (aN [0, 4] rfl rfl ?_); clear O J K E; refine awp_cond rfl ?_; refine rgs fun E K J O => ?_; refine O _ (aN [2] rfl rfl ?_); clear O J K E; refine awp_acc 2 157 4 rfl rfl rfl ?_; refine awp_norm [2] rfl rfl ?_; refine awp_ret ?_; exact ⟨_, [0], _, [.acc 0], rfl, rfl, rfl, rfl, rfl, PWs.refl _, rfl⟩
 refine O _ (aN [0, 4] rfl rfl ?_); clear O J K E; refine awp_cond rfl ?_; refine awp_skip ?_; refine rgs fun E K J O => ?_; refine Or.inr (Or.inr ?_); refine And.intro (And.intro ((by simp only [ex_len, List.length_nil] at *; omega)) ((by simp only [ex_len, List.length_nil, maxLen] at *; omega))) ?_; refine O _ (aN [2] rfl rfl ?_); clear O J K E; refine awp_ret ?_; exact ⟨_, [0], _, [.acc 0], rfl, rfl, rfl, rfl, rfl, PWs.refl _, rfl⟩
theorem terms_spec (kind name proc : ByteArray) (args : List Ex) (cond : List (List Ts)) (body els : List Sm) (hsz : args.length + (condE cond).length ≤ 1073741000) (hc : wtC cond ≤ 1000000000) : Spec Tryz.prog G 112 [.d (.agg (Sm.mk kind name proc args cond body els).cs)] [] (.ret (.d (.sl 4 (exs (args ++ condE cond))))) [] := by
 have hcl := wtC_len cond
 have hb : cond.length ≤ 1073741824 := by omega
 refine spec_of_awp2 TT_ok (N := 34) Tryz.func112 rfl (by rfl) (Nat.le_refl _) rfl ?_; refine rgs fun E K J O => ?_; refine O _ (aN [1] rfl rfl ?_); clear O J K E; refine rgs fun E K J O => ?_; show aCall _ _ _ _ _ _ _; refine aR [] rfl rfl rfl (cloneE_spec G args (by omega)) rfl rfl rfl rfl ?_; refine O _ (aN [1, 3] rfl rfl ?_); clear O J K E; refine awp_seq ?_; refine rgs fun E K J O => ?_; refine O _ (aN [3, 12, 13, 14] rfl rfl ?_); clear O J K E; refine awp_block ?_; refine awp_loop (fun k Y => ∃ (d1 e1 : List (List Ts)), k = e1.length ∧ cond = d1 ++ e1 ∧ Y = ⟨[(3, .acc 1), (12, .d (.sl 1 (cnd cond))), (13, .d (num (cnd cond).length)), (14, .d (num d1.length))], [.box 217 [.d (str kind), .d (str name), .d (str proc), .d (.sl 4 (exs args)), .d (.sl 1 (cnd cond)), .d (.sl 7 (sms body)), .d (.sl 7 (sms els))], .acc 157 4 (exs (args ++ condE d1))]⟩) (cond.length) (⟨[], cond, rfl, rfl, by rw [show condE ([] : List (List Ts)) = [] from rfl, List.append_nil]; rfl⟩) ?_; rintro k Y ⟨d1, e1, rfl, hl1, rfl⟩
 have hll1 : (cnd cond).length = d1.length + e1.length := by rw [cnd_len3, hl1, List.length_append]
 have hdl1 : d1.length + e1.length ≤ 1073741824 := by rw [hl1, List.length_append] at hb; exact hb
 refine rgs fun E K J O => ?_; refine O _ (aN [3, 12, 13, 14, 15] rfl rfl ?_); clear O J K E; refine awp_seq ?_; refine awp_cond2 rfl (onB_intro (fun h1 => ?_) (fun h1 => ?_))
 ·have h1' := of_decide_eq_true h1
  rw [hll1] at h1'
  cases e1 with
  | nil => simp only [List.length_nil] at h1'; omega
  | cons x e1b =>
  subst hl1; simp only [List.length_cons] at hdl1; have hcx := hsz; simp only [condE_app, condE, List.length_append] at hcx; have hxl := wtC_app d1 (x :: e1b); simp only [wtC] at hxl; have hxl2 := wtR_len x
  have hb2 : x.length ≤ 1073741824 := by omega
  refine awp_skip ?_; refine awp_seq ?_; refine awp_block ?_; refine rgs fun E K J O => ?_; refine And.intro (by omega) (Exists.intro _ (And.intro (cnd_at rfl) ?_)); refine O _ (aN [3, 5, 12, 13, 14] rfl rfl ?_); clear O J K E; refine rgs fun E K J O => ?_; refine O _ (aN [3, 12, 13, 14, 18, 19, 20] rfl rfl ?_); clear O J K E; refine awp_block ?_; refine awp_loop (fun k Y => ∃ (d2 e2 : List Ts), k = e2.length ∧ x = d2 ++ e2 ∧ Y = ⟨[(3, .acc 1), (12, .d (.sl 1 (cnd (d1 ++ x :: e1b)))), (13, .d (num (cnd (d1 ++ x :: e1b)).length)), (14, .d (num d1.length)), (18, .d (.sl 9 (tss x))), (19, .d (num (tss x).length)), (20, .d (num d2.length))], [.box 217 [.d (str kind), .d (str name), .d (str proc), .d (.sl 4 (exs args)), .d (.sl 1 (cnd (d1 ++ x :: e1b))), .d (.sl 7 (sms body)), .d (.sl 7 (sms els))], .acc 157 4 (exs ((args ++ condE d1) ++ tsE d2))]⟩) (x.length) (⟨[], x, rfl, rfl, by rw [show tsE ([] : List Ts) = [] from rfl, List.append_nil]; rfl⟩) ?_; rintro k Y ⟨d2, e2, rfl, hl2, rfl⟩
  have hll2 : (tss x).length = d2.length + e2.length := by rw [tss_len3, hl2, List.length_append]
  have hdl2 : d2.length + e2.length ≤ 1073741824 := by rw [hl2, List.length_append] at hb2; exact hb2
  refine rgs fun E K J O => ?_; refine O _ (aN [3, 12, 13, 14, 18, 19, 20, 21] rfl rfl ?_); clear O J K E; refine awp_seq ?_; refine awp_cond2 rfl (onB_intro (fun h2 => ?_) (fun h2 => ?_))
  ·have h2' := of_decide_eq_true h2
   rw [hll2] at h2'
   cases e2 with
   | nil => simp only [List.length_nil] at h2'; omega
   | cons x e2b =>
   obtain ⟨⟨p1, n1, m1, l1⟩, rel, ⟨p2, n2, m2, l2⟩⟩ := x; subst hl2; simp only [List.length_cons] at hdl2; simp only [tsE_app, tsE, List.length_append, List.length_cons] at hcx; refine awp_skip ?_; refine awp_seq ?_; refine awp_block ?_; refine rgs fun E K J O => ?_; refine And.intro (by omega) (Exists.intro _ (And.intro (tss_at rfl) ?_)); refine O _ (aN [3, 7, 12, 13, 14, 18, 19, 20] rfl rfl ?_); clear O J K E; refine rgn fun E K J O => ?_; refine And.intro (And.intro ((by simp only [ex_len, tss_len3, cnd_len3, List.length_append, chunk_length, List.length_cons, List.length_nil] at *; omega)) ((by simp only [ex_len, tss_len3, cnd_len3, List.length_append, chunk_length, List.length_cons, List.length_nil, maxLen] at *; omega))) ?_; refine O _ (aN [3, 12, 13, 14, 18, 19, 20] rfl rfl ?_); clear O J K E; refine rgn fun E K J O => ?_; refine O _ ?_; clear O J K E; exact ⟨_, Nat.lt_succ_self _, _, sub_pick (L := [0, 1]) (slots := [3, 12, 13, 14, 18, 19, 20]) rfl rfl rfl rfl rfl, d2 ++ [⟨.mk p1 n1 m1 l1, rel, .mk p2 n2 m2 l2⟩], e2b, rfl, by simp, by rw [tsx, List.length_append, wrapId (by omega) (by omega)]; rfl⟩
  have h2' := of_decide_eq_false h2; rw [hll2] at h2'; obtain rfl : e2 = [] := List.eq_nil_of_length_eq_zero (by omega); rw [List.append_nil] at hl2; subst hl2; refine awp_exit ?_; refine awp_norm [3, 12, 13, 14] rfl rfl ?_; refine rgn fun E K J O => ?_; refine O _ ?_; clear O J K E; exact ⟨_, Nat.lt_succ_self _, _, sub_pick (L := [0, 1]) (slots := [3, 12, 13, 14]) rfl rfl rfl rfl rfl, d1 ++ [x], e1b, rfl, by simp, by rw [condE_snoc, ← List.append_assoc, List.length_append, wrapId (by omega) (by omega)]; rfl⟩
 have h1' := of_decide_eq_false h1; rw [hll1] at h1'; obtain rfl : e1 = [] := List.eq_nil_of_length_eq_zero (by omega); rw [List.append_nil] at hl1; subst hl1; refine awp_exit ?_; refine awp_norm [3] rfl rfl ?_; refine rgs fun E K J O => ?_; refine O _ (aN [2] rfl rfl ?_); clear O J K E; refine awp_ret ?_; exact ⟨_, [], _, [.d (.sl 4 (exs (args ++ condE cond)))], rfl, rfl, rfl, rfl, rfl, PWs.refl _, rfl⟩
def p117_9 : Plan := (.take 0 (.take 1 (.load 2 (.take 3 (.take 4 (.load 5 (.take 6 (.take 7 (.take 8 (.load 9 (.take 10 (.load 11 (.take 12 (.take 13 (.load 14 (.take 15 (.take 16 (.take 17 (.load 18 (.one 19 (.one 20 (.take 21 .done))))))))))))))))))))))
theorem termsOf_spec (kind name proc : ByteArray) (args : List Ex) (cond : List (List Ts)) (body els : List Sm) (hsz : args.length + (condE cond).length ≤ 1073741000) (hc : wtC cond ≤ 1000000000) : Spec Tryz.prog G 117 [.d (.agg (Sm.mk kind name proc args cond body els).cs)] [] (.ret (.d (.sl 4 (exs (args ++ condE cond))))) [] := by
 have hcl := wtC_len cond
 have hb : cond.length ≤ 1073741824 := by omega
 refine spec_of_awp2 TT_ok (N := 49) Tryz.func117 rfl (by rfl) (Nat.le_refl _) rfl ?_; refine rgs fun E K J O => ?_; refine O _ (aN [1] rfl rfl ?_); clear O J K E; refine rgs fun E K J O => ?_; refine O _ (aN [1, 3] rfl rfl ?_); clear O J K E; refine awp_acc 3 143 4 rfl rfl rfl ?_; refine awp_norm [1, 3] rfl rfl ?_; refine rgs fun E K J O => ?_; refine And.intro (And.intro ((by simp only [ex_len, List.length_nil] at *; omega)) ((by simp only [ex_len, List.length_nil, maxLen] at *; omega))) ?_; refine O _ (aN [1, 3] rfl rfl ?_); clear O J K E; refine awp_seq ?_; refine rgs fun E K J O => ?_; refine O _ (aN [1, 3, 4] rfl rfl ?_); clear O J K E; refine awp_block ?_; refine awp_loop (fun k Y => ∃ (d1 e1 : List (List Ts)), k = e1.length ∧ cond = d1 ++ e1 ∧ Y = ⟨[(1, .box 0 0), (3, .acc 1), (4, .d (num d1.length))], [.box 228 [.d (str kind), .d (str name), .d (str proc), .d (.sl 4 (exs args)), .d (.sl 1 (cnd cond)), .d (.sl 7 (sms body)), .d (.sl 7 (sms els))], .acc 143 4 (exs (args ++ condE d1))]⟩) (cond.length) (⟨[], cond, rfl, rfl, by rw [show condE ([] : List (List Ts)) = [] from rfl, List.append_nil]; rfl⟩) ?_; rintro k Y ⟨d1, e1, rfl, hl1, rfl⟩
 have hll1 : (cnd cond).length = d1.length + e1.length := by rw [cnd_len3, hl1, List.length_append]
 have hdl1 : d1.length + e1.length ≤ 1073741824 := by rw [hl1, List.length_append] at hb; exact hb
 refine awp_seq ?_; refine rgs fun E K J O => ?_; refine O _ (aN [1, 3, 4, 14] rfl rfl ?_); clear O J K E; refine awp_cond2 rfl (onB_intro (fun h1 => ?_) (fun h1 => ?_))
 ·have h1' := of_decide_eq_true h1
  rw [hll1] at h1'
  cases e1 with
  | nil => simp only [List.length_nil] at h1'; omega
  | cons x e1b =>
  subst hl1; simp only [List.length_cons] at hdl1; have hcx := hsz; simp only [condE_app, condE, List.length_append] at hcx; have hxl := wtC_app d1 (x :: e1b); simp only [wtC] at hxl; have hxl2 := wtR_len x
  have hb2 : x.length ≤ 1073741824 := by omega
  refine awp_skip ?_; refine awp_seq ?_; refine awp_block ?_; refine rgs fun E K J O => ?_; refine O _ (aN [1, 3, 4, 5] rfl rfl ?_); clear O J K E; refine awp_block ?_; refine awp_loop (fun k Y => ∃ (d2 e2 : List Ts), k = e2.length ∧ x = d2 ++ e2 ∧ Y = ⟨[(1, .box 0 0), (3, .acc 1), (4, .d (num d1.length)), (5, .d (num d2.length))], [.box 228 [.d (str kind), .d (str name), .d (str proc), .d (.sl 4 (exs args)), .d (.sl 1 (cnd (d1 ++ x :: e1b))), .d (.sl 7 (sms body)), .d (.sl 7 (sms els))], .acc 143 4 (exs ((args ++ condE d1) ++ tsE d2))]⟩) (x.length) (⟨[], x, rfl, rfl, by rw [show tsE ([] : List Ts) = [] from rfl, List.append_nil]; rfl⟩) ?_; rintro k Y ⟨d2, e2, rfl, hl2, rfl⟩
  have hll2 : (tss x).length = d2.length + e2.length := by rw [tss_len3, hl2, List.length_append]
  have hdl2 : d2.length + e2.length ≤ 1073741824 := by rw [hl2, List.length_append] at hb2; exact hb2
  refine awp_seq ?_; refine rgs fun E K J O => ?_; refine And.intro (by omega) (Exists.intro _ (And.intro (cnd_at rfl) ?_)); refine O _ (aN [1, 3, 4, 5, 24] rfl rfl ?_); clear O J K E; refine awp_cond2 rfl (onB_intro (fun h2 => ?_) (fun h2 => ?_))
  ·have h2' := of_decide_eq_true h2
   rw [hll2] at h2'
   cases e2 with
   | nil => simp only [List.length_nil] at h2'; omega
   | cons x e2b =>
   obtain ⟨⟨p1, n1, m1, l1⟩, rel, ⟨p2, n2, m2, l2⟩⟩ := x; subst hl2; simp only [List.length_cons] at hdl2; simp only [tsE_app, tsE, List.length_append, List.length_cons] at hcx; refine awp_skip ?_; refine awp_seq ?_; refine awp_block ?_; refine (awp_draw TT_ok mixed p117_9 [20] (fun _ => true) (by kernel_rfl) fun E K J O => ?_); refine And.intro (by omega) (Exists.intro _ (And.intro (cnd_at rfl) ?_)); refine And.intro (by omega) (Exists.intro _ (And.intro (tss_at rfl) ?_)); refine And.intro (by omega) (Exists.intro _ (And.intro (cnd_at rfl) ?_)); refine And.intro (by omega) (Exists.intro _ (And.intro (tss_at rfl) ?_)); refine And.intro (And.intro ((by simp only [ex_len, tss_len3, cnd_len3, List.length_append, chunk_length, List.length_cons, List.length_nil] at *; omega)) ((by simp only [ex_len, tss_len3, cnd_len3, List.length_append, chunk_length, List.length_cons, List.length_nil, maxLen] at *; omega))) ?_; refine O _ (aN [1, 3, 4, 5] rfl rfl ?_); clear O J K E; refine rgn fun E K J O => ?_; refine O _ ?_; clear O J K E; exact ⟨_, Nat.lt_succ_self _, _, sub_pick (L := [0, 1]) (slots := [1, 3, 4, 5]) rfl rfl rfl rfl rfl, d2 ++ [⟨.mk p1 n1 m1 l1, rel, .mk p2 n2 m2 l2⟩], e2b, rfl, by simp, by rw [tsx, List.length_append, wrapId (by omega) (by omega)]; rfl⟩
  have h2' := of_decide_eq_false h2; rw [hll2] at h2'; obtain rfl : e2 = [] := List.eq_nil_of_length_eq_zero (by omega); rw [List.append_nil] at hl2; subst hl2; refine awp_exit ?_; refine awp_norm [1, 3, 4] rfl rfl ?_; refine rgn fun E K J O => ?_; refine O _ ?_; clear O J K E; exact ⟨_, Nat.lt_succ_self _, _, sub_pick (L := [0, 1]) (slots := [1, 3, 4]) rfl rfl rfl rfl rfl, d1 ++ [x], e1b, rfl, by simp, by rw [condE_snoc, ← List.append_assoc, List.length_append, wrapId (by omega) (by omega)]; rfl⟩
 have h1' := of_decide_eq_false h1; rw [hll1] at h1'; obtain rfl : e1 = [] := List.eq_nil_of_length_eq_zero (by omega); rw [List.append_nil] at hl1; subst hl1; refine awp_exit ?_; refine awp_norm [3] rfl rfl ?_; refine rgs fun E K J O => ?_; refine O _ (aN [2] rfl rfl ?_); clear O J K E; refine awp_ret ?_; exact ⟨_, [], _, [.d (.sl 4 (exs (args ++ condE cond)))], rfl, rfl, rfl, rfl, rfl, PWs.refl _, rfl⟩
end
mutual
/-- A statement and all that stand in it, in the order of the text. -/
def flatS : Sm → List Sm
 | .mk kind name proc args cond body els => .mk kind name proc args cond body els :: (flatB body ++ flatB els)
def flatB : List Sm → List Sm
 | [] => []
 | s :: r => flatS s ++ flatB r
end
theorem flatB_app : ∀ a b : List Sm, flatB (a ++ b) = flatB a ++ flatB b
 | [], _ => by simp [flatB]
 | t :: a, b => by simp only [List.cons_append, flatB, flatB_app a b, List.append_assoc]
theorem sms_app : ∀ a b : List Sm, sms (a ++ b) = sms a ++ sms b
 | [], _ => by simp [sms]
 | t :: a, b => by simp only [List.cons_append, sms, sms_app a b]
mutual
theorem flatS_len : ∀ s : Sm, (flatS s).length ≤ wtS s
 | .mk kind name proc args cond body els => by
  have := flat_len body; have := flat_len els; simp only [flatS, wtS, List.length_cons, List.length_append]; omega
theorem flat_len : ∀ l : List Sm, (flatB l).length ≤ wtB l
 | [] => by simp [flatB]
 | s :: r => by
  have := flatS_len s; have := flat_len r; simp only [flatB, wtB, List.length_append]; omega
end
theorem flat_snoc (d : List Sm) (kind name proc : ByteArray) (args : List Ex) (cond : List (List Ts)) (body els : List Sm) : ((sms (flatB d) ++ [(Sm.mk kind name proc args cond body els).cs]) ++ sms (flatB body)) ++ sms (flatB els) = sms (flatB (d ++ [.mk kind name proc args cond body els])) := by
 rw [flatB_app, sms_app]; simp only [flatB, flatS, List.append_nil, sms, sms_app, List.append_assoc, List.cons_append, List.nil_append]
section
variable (G : Glob)
def FlOk (m : Nat) : Prop := ∀ l : List Sm, fuB l < m → wtB l ≤ 1000000000 → Spec Tryz.prog G 116 [.d (.sl 7 (sms l))] [] (.ret (.d (.sl 7 (sms (flatB l))))) []
theorem flat_step (m : Nat) (ih : FlOk G m) : FlOk G (m + 1) := by
 intro l hf hw; have hlen := wtB_len l
 have hbig : l.length ≤ 1073741824 := by omega
 refine spec_of_awp2 TT_ok (N := 35) Tryz.func116 rfl (by rfl) (Nat.le_refl _) rfl ?_; refine rgs fun E K J O => ?_; refine O _ (aN [0] rfl rfl ?_); clear O J K E; refine rgs fun E K J O => ?_; refine O _ (aN [0, 3] rfl rfl ?_); clear O J K E; refine awp_acc 3 228 7 rfl rfl rfl ?_; refine awp_norm [0, 3] rfl rfl ?_; refine awp_seq ?_; refine rgs fun E K J O => ?_; refine O _ (aN [0, 3, 4] rfl rfl ?_); clear O J K E; refine awp_block ?_; refine awp_loop (fun k Y => ∃ (d1 e1 : List Sm), k = e1.length ∧ l = d1 ++ e1 ∧ Y = ⟨[(0, .d (.sl 7 (sms l))), (3, .acc 0), (4, .d (num d1.length))], [.acc 228 7 (sms (flatB d1))]⟩) (l.length) (⟨[], l, rfl, rfl, rfl⟩) ?_; rintro k Y ⟨d1, e1, rfl, hl1, rfl⟩
 have hll1 : (sms l).length = d1.length + e1.length := by rw [sms_len2, hl1, List.length_append]
 have hdl1 : d1.length + e1.length ≤ 1073741824 := by rw [hl1, List.length_append] at hbig; exact hbig
 refine awp_seq ?_; refine rgs fun E K J O => ?_; refine O _ (aN [0, 3, 4, 8] rfl rfl ?_); clear O J K E; refine awp_cond2 rfl (onB_intro (fun h1 => ?_) (fun h1 => ?_))
 ·have h1' := of_decide_eq_true h1
  rw [hll1] at h1'
  cases e1 with
  | nil => simp only [List.length_nil] at h1'; omega
  | cons x e1b =>
  obtain ⟨kind, name, proc, args, cond, body, els⟩ := x; subst hl1; simp only [List.length_cons] at hdl1; have hfx := fuB_app d1 (.mk kind name proc args cond body els :: e1b); have hwx := wtB_app d1 (.mk kind name proc args cond body els :: e1b); simp only [fuB, fuS, wtB, wtS] at hfx hwx; have hfl := flat_len (d1 ++ .mk kind name proc args cond body els :: e1b); simp only [flatB_app, flatB, flatS, List.length_append, List.length_cons] at hfl; refine awp_skip ?_; refine awp_seq ?_; refine awp_block ?_; refine rgs fun E K J O => ?_; refine And.intro (by omega) (Exists.intro _ (And.intro (sms_at2 rfl) ?_)); refine And.intro (And.intro ((by simp only [sms_len2, List.length_append, chunk_length, List.length_cons, List.length_nil] at *; omega)) ((by simp only [sms_len2, List.length_append, chunk_length, List.length_cons, List.length_nil, maxLen] at *; omega))) ?_; refine O _ (aN [0, 3, 4] rfl rfl ?_); clear O J K E; refine rgs fun E K J O => ?_; refine And.intro (by omega) (Exists.intro _ (And.intro (sms_at2 rfl) ?_))
  show aCall _ _ _ _ _ _ _
  refine aR [] rfl rfl rfl (ih body (by omega) (by omega)) rfl rfl rfl rfl ?_; refine And.intro (And.intro ((by simp only [sms_len2, List.length_append, chunk_length, List.length_cons, List.length_nil] at *; omega)) ((by simp only [sms_len2, List.length_append, chunk_length, List.length_cons, List.length_nil, maxLen] at *; omega))) ?_; refine O _ (aN [0, 3, 4] rfl rfl ?_); clear O J K E; refine rgn fun E K J O => ?_; refine And.intro (by omega) (Exists.intro _ (And.intro (sms_at2 rfl) ?_))
  show aCall _ _ _ _ _ _ _
  refine aR [] rfl rfl rfl (ih els (by omega) (by omega)) rfl rfl rfl rfl ?_; refine And.intro (And.intro ((by simp only [sms_len2, List.length_append, chunk_length, List.length_cons, List.length_nil] at *; omega)) ((by simp only [sms_len2, List.length_append, chunk_length, List.length_cons, List.length_nil, maxLen] at *; omega))) ?_; refine O _ (aN [0, 3, 4] rfl rfl ?_); clear O J K E; refine rgn fun E K J O => ?_; refine O _ ?_; clear O J K E; exact ⟨_, Nat.lt_succ_self _, _, sub_pick (L := [0]) (slots := [0, 3, 4]) rfl rfl rfl rfl rfl, d1 ++ [.mk kind name proc args cond body els], e1b, rfl, by simp, by rw [← flat_snoc, List.length_append, wrapId (by omega) (by omega)]; rfl⟩
 have h1' := of_decide_eq_false h1; rw [hll1] at h1'; obtain rfl : e1 = [] := List.eq_nil_of_length_eq_zero (by omega); rw [List.append_nil] at hl1; subst hl1; refine awp_exit ?_; refine awp_norm [3] rfl rfl ?_; refine rgs fun E K J O => ?_; refine O _ (aN [2] rfl rfl ?_); clear O J K E; refine awp_ret ?_; exact ⟨_, [], _, [.d (.sl 7 (sms (flatB l)))], rfl, rfl, rfl, rfl, rfl, PWs.refl _, rfl⟩
theorem flat_all : ∀ m, FlOk G m
 | 0 => fun l h => absurd h (by omega)
 | m + 1 => flat_step G m (flat_all m)
theorem flat_spec (l : List Sm) (hw : wtB l ≤ 1000000000) : Spec Tryz.prog G 116 [.d (.sl 7 (sms l))] [] (.ret (.d (.sl 7 (sms (flatB l))))) [] := flat_all G (fuB l + 1) l (Nat.lt_succ_self _) hw
/-- A closure's two boxes: is all right so far; the place. -/
def WkR (vs ay : List ByteArray) (ps : List Pc) (ok : Bool) : List Row := [.box 4 [.d (.s (.bool ok))], .box 196 [.d (.sl 1 (strs vs)), .d (.sl 1 (strs ay)), .d (.sl 7 (pcs ps))]]
theorem walk_snoc (g : Sm → Bool) (ok : Bool) (d : List Sm) (kind name proc : ByteArray) (args : List Ex) (cond : List (List Ts)) (body els : List Sm) : ((((ok && (flatB d).all g) && g (.mk kind name proc args cond body els)) && (flatB body).all g) && (flatB els).all g) = (ok && (flatB (d ++ [.mk kind name proc args cond body els])).all g) := by
 rw [flatB_app]; simp only [flatB, flatS, List.append_nil, List.all_append, List.all_cons, Bool.and_assoc]
def WkOk (vs ay : List ByteArray) (ps : List Pc) (c : FuncId) (g : Sm → Bool) (m : Nat) : Prop := ∀ (l : List Sm) (ok : Bool), fuB l < m → wtB l ≤ 1000000000 → (∀ x, x ∈ flatB l → ∀ ok, Spec Tryz.prog G c [.d (.agg x.cs), .box 0 0, .box 1 0] (WkR vs ay ps ok) (.ret (.tup [])) (WkR vs ay ps (ok && g x))) →
 Spec Tryz.prog G 113 [.d (.sl 7 (sms l)), .fn c [.box 0 0, .box 1 0]] (WkR vs ay ps ok) (.ret (.tup [])) (WkR vs ay ps (ok && (flatB l).all g))
theorem walk_step (vs ay : List ByteArray) (ps : List Pc) (c : FuncId) (g : Sm → Bool) (m : Nat) (ih : WkOk G vs ay ps c g m) : WkOk G vs ay ps c g (m + 1) := by
 intro l ok hf hw hc; have hlen := wtB_len l
 have hbig : l.length ≤ 1073741824 := by omega
 refine spec_of_awp2 TT_ok (N := 24) Tryz.func113 rfl (by rfl) (Nat.le_refl _) rfl ?_; refine rgs fun E K J O => ?_; refine O _ (aN [1, 6, 7, 8] rfl rfl ?_); clear O J K E; refine awp_block ?_; refine awp_loop (fun k Y => ∃ (d1 e1 : List Sm), k = e1.length ∧ l = d1 ++ e1 ∧ Y = ⟨[(1, .fn c [.box 0 0, .box 1 0]), (6, .d (.sl 7 (sms l))), (7, .d (num (sms l).length)), (8, .d (num d1.length))], (WkR vs ay ps (ok && (flatB d1).all g))⟩) (l.length) (⟨[], l, rfl, rfl, by rw [show (flatB ([] : List Sm)).all g = true from rfl, Bool.and_true]; rfl⟩) ?_; rintro k Y ⟨d1, e1, rfl, hl1, rfl⟩
 have hll1 : (sms l).length = d1.length + e1.length := by rw [sms_len2, hl1, List.length_append]
 have hdl1 : d1.length + e1.length ≤ 1073741824 := by rw [hl1, List.length_append] at hbig; exact hbig
 refine rgs fun E K J O => ?_; refine O _ (aN [1, 6, 7, 8, 9] rfl rfl ?_); clear O J K E; refine awp_seq ?_; refine awp_cond2 rfl (onB_intro (fun h1 => ?_) (fun h1 => ?_))
 ·have h1' := of_decide_eq_true h1
  rw [hll1] at h1'
  cases e1 with
  | nil => simp only [List.length_nil] at h1'; omega
  | cons x e1b =>
  obtain ⟨kind, name, proc, args, cond, body, els⟩ := x; subst hl1; simp only [List.length_cons] at hdl1; have hfx := fuB_app d1 (.mk kind name proc args cond body els :: e1b); have hwx := wtB_app d1 (.mk kind name proc args cond body els :: e1b); simp only [fuB, fuS, wtB, wtS] at hfx hwx
  have hm0 : .mk kind name proc args cond body els ∈ flatB (d1 ++ .mk kind name proc args cond body els :: e1b) := by rw [flatB_app]; simp [flatB, flatS]
  have hmb : ∀ y, y ∈ flatB body → y ∈ flatB (d1 ++ .mk kind name proc args cond body els :: e1b) := fun y hy => by rw [flatB_app]; simp [flatB, flatS, hy]
  have hme : ∀ y, y ∈ flatB els → y ∈ flatB (d1 ++ .mk kind name proc args cond body els :: e1b) := fun y hy => by rw [flatB_app]; simp [flatB, flatS, hy]
  refine awp_skip ?_; refine awp_seq ?_; refine awp_block ?_; refine rgs fun E K J O => ?_; refine And.intro (by omega) (Exists.intro _ (And.intro (sms_at2 rfl) ?_)); refine O _ (aN [1, 5, 6, 7, 8] rfl rfl ?_); clear O J K E; refine rgs fun E K J O => ?_; show aCall _ _ _ _ _ _ _; refine aR [0, 1] rfl rfl rfl (hc _ hm0 _) rfl rfl rfl rfl ?_; refine O _ (aN [1, 5, 6, 7, 8] rfl rfl ?_); clear O J K E; refine rgs fun E K J O => ?_; show aCall _ _ _ _ _ _ _; refine aR [0, 1] rfl rfl rfl (ih body _ (by omega) (by omega) (fun y hy => hc y (hmb y hy))) rfl rfl rfl rfl ?_; refine O _ (aN [1, 5, 6, 7, 8] rfl rfl ?_); clear O J K E; refine rgn fun E K J O => ?_; show aCall _ _ _ _ _ _ _; refine aR [0, 1] rfl rfl rfl (ih els _ (by omega) (by omega) (fun y hy => hc y (hme y hy))) rfl rfl rfl rfl ?_; refine O _ (aN [1, 6, 7, 8] rfl rfl ?_); clear O J K E; refine rgn fun E K J O => ?_; refine O _ ?_; clear O J K E; exact ⟨_, Nat.lt_succ_self _, _, sub_pick (L := [0, 1]) (slots := [1, 6, 7, 8]) rfl rfl rfl rfl rfl, d1 ++ [.mk kind name proc args cond body els], e1b, rfl, by simp, by rw [← walk_snoc, List.length_append, wrapId (by omega) (by omega)]; rfl⟩
 have h1' := of_decide_eq_false h1; rw [hll1] at h1'; obtain rfl : e1 = [] := List.eq_nil_of_length_eq_zero (by omega); rw [List.append_nil] at hl1; subst hl1; refine awp_exit ?_; exact ⟨_, [0, 1], _, [], rfl, rfl, rfl, rfl, rfl, PWs.nil, rfl⟩
theorem walk_all (vs ay : List ByteArray) (ps : List Pc) (c : FuncId) (g : Sm → Bool) : ∀ m, WkOk G vs ay ps c g m
 | 0 => fun l ok h => absurd h (by omega)
 | m + 1 => walk_step G vs ay ps c g m (walk_all vs ay ps c g m)
end
end Go.Abs
end
