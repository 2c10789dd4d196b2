/- Texts of this proof, joined: AbsRG, AbsNB, AbsMI, AbsMJ, AbsMK, AbsNJ, AbsNC, AbsNK, AbsNL, AbsLG, AbsLH, AbsLI, AbsTA, AbsTB, AbsTC, AbsTD, AbsTE, AbsKS, AbsKA, AbsKB, AbsKC, AbsKD. -/
import Derived.Test.YtedljfabpknjiaaGreatDoorF11
import Derived.Test.YtedljfabpknjiaaGreatDoorF7
import Derived.Laws.StructEq
import Derived.Test.YtedljfabpknjiaaGreatDoorF9
import Derived.Shelf.Sort.Plain
import Derived.Ground.NamesProg
import Derived.Test.YtedljfabpknjiaaGreatDoorProg
import Derived.Lib.SlicesCompact
section
namespace Go.Abs
open Go Go.Proofs
attribute [local irreducible] aCall AWp Sub Spec
theorem sms_snoc2 : ∀ (l : List Sm) (e : Sm), sms l ++ [e.cs] = sms (l ++ [e])
 | [], e => rfl
 | x :: r, e => by simp only [sms, List.cons_append, sms_snoc2 r e]
def OfE (G : Glob) (f : FuncId) (m : Nat) : Prop := ∀ l : List Ex, fuL l < m → wtL l ≤ 1000000000 → Spec Tryz.prog G f [.d (.sl 4 (exs l))] [] (.ret (.d (.sl 4 (exs l)))) []
theorem tss_len3 (l : List Ts) : (tss l).length = l.length := by simp [tss]
theorem cnd_len3 (l : List (List Ts)) : (cnd l).length = l.length := by simp [cnd]
theorem fuL_app : ∀ (a b : List Ex), fuL (a ++ b) = fuL a + fuL b
 | [], b => by simp [fuL]
 | x :: a, b => by simp only [List.cons_append, fuL, fuL_app a b]; omega
theorem wtL_app : ∀ (a b : List Ex), wtL (a ++ b) = wtL a + wtL b
 | [], b => by simp [wtL]
 | x :: a, b => by simp only [List.cons_append, wtL, wtL_app a b]; omega
def p156_5 : Plan := (.take 0 (.take 1 (.take 2 (.take 3 (.take 4 (.load 5 (.take 6 (.take 7 (.take 8 (.take 9 (.load 10 (.take 11 (.take 12 (.take 13 (.take 14 (.load 15 (.take 16 (.take 17 (.take 18 (.take 19 (.load 20 (.one 21 (.one 22 (.one 23 (.one 24 (.take 25 .done))))))))))))))))))))))))))
theorem exprsOf_step (G : Glob) (m : Nat) (ih : OfE G 156 m) : OfE G 156 (m + 1) := by
 intro l hf hw; have hlen := wtL_len l
 have hbig : l.length ≤ 1073741824 := by omega
 refine spec_of_awp2 TT_ok (N := 37) Tryz.func156 rfl (by rfl) (Nat.le_refl _) rfl ?_; refine rgs fun E K J O => ?_; refine O _ (aN [0] rfl rfl ?_); clear O J K E; refine rgs fun E K J O => ?_; refine O _ (aN [0, 3] rfl rfl ?_); clear O J K E; refine awp_seq ?_; refine rgs fun E K J O => ?_; refine O _ (aN [0, 3, 4] rfl rfl ?_); clear O J K E; refine awp_acc 3 157 4 rfl rfl rfl ?_; refine awp_norm [0, 3, 4] rfl rfl ?_; refine awp_block ?_; refine awp_loop (fun k Y => ∃ (d1 e1 : List Ex), k = e1.length ∧ l = d1 ++ e1 ∧ Y = ⟨[(0, .d (.sl 4 (exs l))), (3, .acc 0), (4, .d (num d1.length))], [.acc 157 4 (exs d1)]⟩) (l.length) (⟨[], l, rfl, rfl, rfl⟩) ?_; rintro k Y ⟨d1, e1, rfl, hl1, rfl⟩
 have hll1 : (exs l).length = d1.length + e1.length := by rw [ex_len, hl1, List.length_append]
 have hdl1 : d1.length + e1.length ≤ 1073741824 := by rw [hl1, List.length_append] at hbig; exact hbig
 refine awp_seq ?_; refine rgs fun E K J O => ?_; refine O _ (aN [0, 3, 4, 8] rfl rfl ?_); clear O J K E; refine awp_cond2 rfl (onB_intro (fun h1 => ?_) (fun h1 => ?_))
 ·have h1' := of_decide_eq_true h1
  rw [hll1] at h1'
  cases e1 with
  | nil => simp only [List.length_nil] at h1'; omega
  | cons x e1b =>
  obtain ⟨p1, n1, m1, l1⟩ := x; subst hl1; simp only [List.length_cons] at hdl1
  have hfx : fuL l1 < m := by rw [fuL_app] at hf; simp only [fuL, fuE] at hf; omega
  have hwx : wtL l1 ≤ 1000000000 := by rw [wtL_app] at hw; simp only [wtL, wtE] at hw; omega
  refine awp_skip ?_; refine awp_seq ?_; refine awp_block ?_; refine (awp_draw TT_ok mixed p156_5 [24] (fun _ => false) (by kernel_rfl) fun E K J O => ?_); refine And.intro ((by omega)) (Exists.intro _ (And.intro (exs_at rfl) ?_)); refine And.intro ((by omega)) (Exists.intro _ (And.intro (exs_at rfl) ?_)); refine And.intro ((by omega)) (Exists.intro _ (And.intro (exs_at rfl) ?_)); refine And.intro ((by omega)) (Exists.intro _ (And.intro (exs_at rfl) ?_))
  show aCall _ _ _ _ _ _ _
  refine aR [] rfl rfl rfl (ih l1 hfx hwx) rfl rfl rfl rfl ?_; refine And.intro (And.intro ((by simp only [ex_len, chunk_length]; omega)) ((by simp only [ex_len, chunk_length, maxLen]; omega))) ?_; refine O _ (aN [0, 3, 4] rfl rfl ?_); clear O J K E; refine rgn fun E K J O => ?_; refine O _ ?_; clear O J K E; exact ⟨_, Nat.lt_succ_self _, _, sub_pick (L := [0]) (slots := [0, 3, 4]) rfl rfl rfl rfl rfl, d1 ++ [.mk p1 n1 m1 l1], e1b, rfl, by simp, by rw [← exs_snoc, List.length_append, wrapId (by omega) (by omega)]; rfl⟩
 have h1' := of_decide_eq_false h1; rw [hll1] at h1'; obtain rfl : e1 = [] := List.eq_nil_of_length_eq_zero (by omega); rw [List.append_nil] at hl1; subst hl1; refine awp_exit ?_; refine awp_norm [3] rfl rfl ?_; refine rgs fun E K J O => ?_; refine O _ (aN [2] rfl rfl ?_); clear O J K E; refine awp_ret ?_; exact ⟨_, [], _, [.d (.sl 4 (exs l))], rfl, rfl, rfl, rfl, rfl, PWs.refl _, rfl⟩
theorem exprsOf_spec (G : Glob) : ∀ m, OfE G 156 m
 | 0 => fun l h => absurd h (by omega)
 | m + 1 => exprsOf_step G m (exprsOf_spec G m)
theorem exprsOf_all (G : Glob) (l : List Ex) (hw : wtL l ≤ 1000000000) : Spec Tryz.prog G 156 [.d (.sl 4 (exs l))] [] (.ret (.d (.sl 4 (exs l)))) [] := exprsOf_spec G (fuL l + 1) l (Nat.lt_succ_self _) hw
def p84_1 : Plan := (.take 0 (.load 1 (.take 2 (.load 3 (.take 4 (.load 5 (.take 6 (.load 7 (.one 8 (.one 9 (.one 10 .done)))))))))))
theorem exprOf_spec (G : Glob) (e : Ex) (hw : wtE e ≤ 1000000000) : Spec Tryz.prog G 84 [.d (.agg e.cs)] [] (.ret (.d (.agg e.cs))) [] := by
 obtain ⟨op, n, nm, l⟩ := e; refine spec_of_awp2 TT_ok (N := 13) Tryz.func84 rfl (by rfl) (Nat.le_refl _) rfl ?_; refine rgs fun E K J O => ?_; refine O _ (aN [1, 2] rfl rfl ?_); clear O J K E; refine awp_seq ?_; refine (awp_draw TT_ok mixed p84_1 [10] (fun i => Nat.beq i 0) (by kernel_rfl) fun E K J O => ?_)
 show aCall _ _ _ _ _ _ _
 refine aR [] rfl rfl rfl (exprsOf_all G l (by simp only [wtE] at hw; omega)) rfl rfl rfl rfl ?_; refine O _ (aN [2] rfl rfl ?_); clear O J K E; refine awp_ret ?_; exact ⟨_, [], _, [encE (.mk op n nm l)], rfl, rfl, rfl, rfl, rfl, PWs.refl _, rfl⟩
theorem wtR_app : ∀ (a b : List Ts), wtR b ≤ wtR (a ++ b)
 | [], b => Nat.le_refl _
 | x :: a, b => by have := wtR_app a b; simp only [List.cons_append, wtR]; omega
def p157_5 : Plan := (.take 0 (.take 1 (.take 2 (.take 3 (.take 4 (.load 5 (.take 7 (.take 8 (.take 9 (.take 10 (.load 11 (.take 12 (.take 13 (.take 14 (.take 15 (.load 16 (.one 6 (.one 17 (.one 18 (.one 19 (.one 20 (.take 21 .done))))))))))))))))))))))
theorem testsOf_spec (G : Glob) (l : List Ts) (hw : wtR l ≤ 1000000000) : Spec Tryz.prog G 157 [.d (.sl 9 (tss l))] [] (.ret (.d (.sl 9 (tss l)))) [] := by
 have hlen := wtR_len l
 have hbig : l.length ≤ 1073741824 := by omega
 refine spec_of_awp2 TT_ok (N := 33) Tryz.func157 rfl (by rfl) (Nat.le_refl _) rfl ?_; refine rgs fun E K J O => ?_; refine O _ (aN [0] rfl rfl ?_); clear O J K E; refine rgs fun E K J O => ?_; refine O _ (aN [0, 3] rfl rfl ?_); clear O J K E; refine awp_seq ?_; refine rgs fun E K J O => ?_; refine O _ (aN [0, 3, 4] rfl rfl ?_); clear O J K E; refine awp_acc 3 282 9 rfl rfl rfl ?_; refine awp_norm [0, 3, 4] rfl rfl ?_; refine awp_block ?_; refine awp_loop (fun k Y => ∃ (d1 e1 : List Ts), k = e1.length ∧ l = d1 ++ e1 ∧ Y = ⟨[(0, .d (.sl 9 (tss l))), (3, .acc 0), (4, .d (num d1.length))], [.acc 282 9 (tss d1)]⟩) (l.length) (⟨[], l, rfl, rfl, rfl⟩) ?_; rintro k Y ⟨d1, e1, rfl, hl1, rfl⟩
 have hll1 : (tss l).length = d1.length + e1.length := by rw [tss_len3, hl1, List.length_append]
 have hdl1 : d1.length + e1.length ≤ 1073741824 := by rw [hl1, List.length_append] at hbig; exact hbig
 refine awp_seq ?_; refine rgs fun E K J O => ?_; refine O _ (aN [0, 3, 4, 8] rfl rfl ?_); clear O J K E; refine awp_cond2 rfl (onB_intro (fun h1 => ?_) (fun h1 => ?_))
 ·have h1' := of_decide_eq_true h1
  rw [hll1] at h1'
  cases e1 with
  | nil => simp only [List.length_nil] at h1'; omega
  | cons x e1b =>
  obtain ⟨⟨p1, n1, m1, l1⟩, rel, ⟨p2, n2, m2, l2⟩⟩ := x; subst hl1; simp only [List.length_cons] at hdl1; have hx := wtR_app d1 (⟨.mk p1 n1 m1 l1, rel, .mk p2 n2 m2 l2⟩ :: e1b); rw [wtR, wtT] at hx; simp only at hx; refine awp_skip ?_; refine awp_seq ?_; refine awp_block ?_; refine (awp_draw TT_ok mixed p157_5 [20] (fun _ => false) (by kernel_rfl) fun E K J O => ?_); refine And.intro ((by omega)) (Exists.intro _ (And.intro (tss_at rfl) ?_)); refine And.intro ((by omega)) (Exists.intro _ (And.intro (tss_at rfl) ?_)); refine And.intro ((by omega)) (Exists.intro _ (And.intro (tss_at rfl) ?_))
  show aCall _ _ _ _ _ _ _
  refine aR [] rfl rfl rfl (exprOf_spec G (.mk p1 n1 m1 l1) (by omega)) rfl rfl rfl rfl ?_
  show aCall _ _ _ _ _ _ _
  refine aR [] rfl rfl rfl (exprOf_spec G (.mk p2 n2 m2 l2) (by omega)) rfl rfl rfl rfl ?_; refine And.intro (And.intro ((by simp only [tss_len3, chunk_length]; omega)) ((by simp only [tss_len3, chunk_length, maxLen]; omega))) ?_; refine O _ (aN [0, 3, 4] rfl rfl ?_); clear O J K E; refine rgn fun E K J O => ?_; refine O _ ?_; clear O J K E; exact ⟨_, Nat.lt_succ_self _, _, sub_pick (L := [0]) (slots := [0, 3, 4]) rfl rfl rfl rfl rfl, d1 ++ [⟨.mk p1 n1 m1 l1, rel, .mk p2 n2 m2 l2⟩], e1b, rfl, by simp, by rw [← tss_snoc, List.length_append, wrapId (by omega) (by omega)]; rfl⟩
 have h1' := of_decide_eq_false h1; rw [hll1] at h1'; obtain rfl : e1 = [] := List.eq_nil_of_length_eq_zero (by omega); rw [List.append_nil] at hl1; subst hl1; refine awp_exit ?_; refine awp_norm [3] rfl rfl ?_; refine rgs fun E K J O => ?_; refine O _ (aN [2] rfl rfl ?_); clear O J K E; refine awp_ret ?_; exact ⟨_, [], _, [.d (.sl 9 (tss l))], rfl, rfl, rfl, rfl, rfl, PWs.refl _, rfl⟩
theorem fuB_app : ∀ (a b : List Sm), fuB b ≤ fuB (a ++ b)
 | [], b => Nat.le_refl _
 | x :: a, b => by have := fuB_app a b; simp only [List.cons_append, fuB]; omega
theorem wtB_app : ∀ (a b : List Sm), wtB b ≤ wtB (a ++ b)
 | [], b => Nat.le_refl _
 | x :: a, b => by have := wtB_app a b; simp only [List.cons_append, wtB]; omega
theorem wtC_app : ∀ (a b : List (List Ts)), wtC b ≤ wtC (a ++ b)
 | [], b => Nat.le_refl _
 | x :: a, b => by have := wtC_app a b; simp only [List.cons_append, wtC]; omega
theorem wtP_app : ∀ (a b : List Pc), wtP b ≤ wtP (a ++ b)
 | [], b => Nat.le_refl _
 | x :: a, b => by have := wtP_app a b; simp only [List.cons_append, wtP]; omega
def OfS (G : Glob) (m : Nat) : Prop := ∀ l : List Sm, fuB l < m → wtB l ≤ 1000000000 → Spec Tryz.prog G 83 [.d (.sl 7 (sms l))] [] (.ret (.d (.sl 7 (sms l)))) []
set_option maxHeartbeats 1000000
def p83_5 : Plan := (.take 0 (.take 1 (.take 2 (.take 3 (.load 4 (.take 5 (.take 6 (.take 7 (.take 8 (.load 9 (.take 10 (.take 11 (.take 12 (.take 13 (.load 14 (.take 15 (.take 16 (.take 17 (.take 18 (.load 19 (.take 21 (.take 22 (.take 23 (.take 24 (.load 25 (.take 27 (.take 28 (.take 29 (.take 30 (.load 31 (.alt 20 (.alt 26 (.alt 32 (.alt 33 (.one 34 (.one 35 .done)) (.alt 34 (.one 33 (.one 35 .done)) .done)) (.alt 34 (.one 32 (.one 33 (.one 35 .done))) .done)) (.alt 34 (.one 26 (.one 32 (.one 33 (.one 35 .done)))) .done)) (.alt 34 (.one 20 (.one 26 (.one 32 (.one 33 (.one 35 .done))))) .done))))))))))))))))))))))))))))))))
def p83_9 : Plan := (.take 0 (.load 1 (.take 2 (.take 3 (.take 4 (.take 5 (.load 6 (.take 7 (.take 8 (.load 9 (.one 10 (.one 11 (.one 12 (.take 13 (.one 14 .done)))))))))))))))
theorem stmtsOf_step (G : Glob) (m : Nat) (ih : OfS G m) : OfS G (m + 1) := by
 intro l hf hw; have hlen := wtB_len l
 have hbig : l.length ≤ 1073741824 := by omega
 refine spec_of_awp2 TT_ok (N := 76) Tryz.func83 rfl (by rfl) (Nat.le_refl _) rfl ?_; refine rgs fun E K J O => ?_; refine O _ (aN [0] rfl rfl ?_); clear O J K E; refine rgs fun E K J O => ?_; refine O _ (aN [0, 3] rfl rfl ?_); clear O J K E; refine awp_seq ?_; refine rgs fun E K J O => ?_; refine O _ (aN [0, 3, 4] rfl rfl ?_); clear O J K E; refine awp_acc 3 217 7 rfl rfl rfl ?_; refine awp_norm [0, 3, 4] rfl rfl ?_; refine awp_block ?_; refine awp_loop (fun k Y => ∃ (d1 e1 : List Sm), k = e1.length ∧ l = d1 ++ e1 ∧ Y = ⟨[(0, .d (.sl 7 (sms l))), (3, .acc 0), (4, .d (num d1.length))], [.acc 217 7 (sms d1)]⟩) (l.length) (⟨[], l, rfl, rfl, rfl⟩) ?_; rintro k Y ⟨d1, e1, rfl, hl1, rfl⟩
 have hll1 : (sms l).length = d1.length + e1.length := by rw [sms_len2, hl1, List.length_append]
 have hdl1 : d1.length + e1.length ≤ 1073741824 := by rw [hl1, List.length_append] at hbig; exact hbig
 refine awp_seq ?_; refine rgs fun E K J O => ?_; refine O _ (aN [0, 3, 4, 10] rfl rfl ?_); clear O J K E; refine awp_cond2 rfl (onB_intro (fun h1 => ?_) (fun h1 => ?_))
 ·have h1' := of_decide_eq_true h1
  rw [hll1] at h1'
  cases e1 with
  | nil => simp only [List.length_nil] at h1'; omega
  | cons x e1b =>
  obtain ⟨kind, name, proc, args, cond, body, els⟩ := x; subst hl1; simp only [List.length_cons] at hdl1; have hfx := fuB_app d1 (.mk kind name proc args cond body els :: e1b); have hwx := wtB_app d1 (.mk kind name proc args cond body els :: e1b); simp only [fuB, fuS, wtB, wtS] at hfx hwx; have hfb := fuB_ge body; have hfe := fuB_ge els; have hcl := wtC_len cond
  have hbig2 : cond.length ≤ 1073741824 := by omega
  refine awp_skip ?_; refine awp_seq ?_; refine awp_block ?_; refine awp_cut (fun Z => Z = ⟨[(0, .d (.sl 7 (sms (d1 ++ .mk kind name proc args cond body els :: e1b)))), (3, .acc 0), (4, .d (num d1.length)), (5, .box 1 0)], [.acc 217 7 (sms d1), .box 217 [.d (str kind), .d (str name), .d (str proc), .d (.sl 4 (exs args)), .d (.s (.slice none 0 0)), .d (.sl 7 (sms body)), .d (.sl 7 (sms els))]]⟩) ?_ ?_
  ·refine (awp_draw TT_ok mixed p83_5 [35] (fun _ => false) (by kernel_rfl) fun E K J O => ?_)
   refine And.intro ((by omega)) (Exists.intro _ (And.intro (sms_at2 rfl) ?_)); refine And.intro ((by omega)) (Exists.intro _ (And.intro (sms_at2 rfl) ?_)); refine And.intro ((by omega)) (Exists.intro _ (And.intro (sms_at2 rfl) ?_)); refine And.intro ((by omega)) (Exists.intro _ (And.intro (sms_at2 rfl) ?_)); refine And.intro ((by omega)) (Exists.intro _ (And.intro (sms_at2 rfl) ?_)); refine And.intro ((by omega)) (Exists.intro _ (And.intro (sms_at2 rfl) ?_)); refine And.intro ?_ ?_
   ·show aCall _ _ _ _ _ _ _
    refine aR [] rfl rfl rfl (exprsOf_all G args (by omega)) rfl rfl rfl rfl ?_; refine And.intro ?_ ?_
    ·show aCall _ _ _ _ _ _ _
     refine aR [] rfl rfl rfl (ih body (by omega) (by omega)) rfl rfl rfl rfl ?_; refine And.intro ?_ ?_
     ·show aCall _ _ _ _ _ _ _
      refine aR [] rfl rfl rfl (ih els (by omega) (by omega)) rfl rfl rfl rfl ?_; refine And.intro ?_ ?_
      ·refine O _ ?_; clear O J K E
       exact ⟨_, sub_norm (slots := [0, 3, 4, 5]) rfl rfl, rfl⟩
      refine And.intro ?_ ?_
      ·refine O _ ?_; clear O J K E
       exact ⟨_, sub_norm (slots := [0, 3, 4, 5]) rfl rfl, rfl⟩
      trivial
     refine And.intro ?_ ?_
     ·show aCall _ _ _ _ _ _ _
      refine aR [] rfl rfl rfl (ih els (by omega) (by omega)) rfl rfl rfl rfl ?_; refine O _ ?_; clear O J K E; exact ⟨_, sub_norm (slots := [0, 3, 4, 5]) rfl rfl, rfl⟩
     trivial
    refine And.intro ?_ ?_
    ·show aCall _ _ _ _ _ _ _
     refine aR [] rfl rfl rfl (ih body (by omega) (by omega)) rfl rfl rfl rfl ?_
     show aCall _ _ _ _ _ _ _
     refine aR [] rfl rfl rfl (ih els (by omega) (by omega)) rfl rfl rfl rfl ?_; refine O _ ?_; clear O J K E; exact ⟨_, sub_norm (slots := [0, 3, 4, 5]) rfl rfl, rfl⟩
    trivial
   refine And.intro ?_ ?_
   ·show aCall _ _ _ _ _ _ _
    refine aR [] rfl rfl rfl (exprsOf_all G args (by omega)) rfl rfl rfl rfl ?_
    show aCall _ _ _ _ _ _ _
    refine aR [] rfl rfl rfl (ih body (by omega) (by omega)) rfl rfl rfl rfl ?_
    show aCall _ _ _ _ _ _ _
    refine aR [] rfl rfl rfl (ih els (by omega) (by omega)) rfl rfl rfl rfl ?_; refine O _ ?_; clear O J K E; exact ⟨_, sub_norm (slots := [0, 3, 4, 5]) rfl rfl, rfl⟩
   trivial
  rintro Z rfl; refine awp_seq ?_; refine rgs fun E K J O => ?_; refine O _ (aN [0, 3, 4, 5, 6] rfl rfl ?_); clear O J K E; refine awp_accCell 1 4 123 1 rfl rfl rfl rfl ?_; refine awp_norm [0, 3, 4, 5, 6] rfl rfl ?_; refine awp_block ?_; refine awp_loop (fun k Y => ∃ (d2 e2 : List (List Ts)), k = e2.length ∧ cond = d2 ++ e2 ∧ Y = ⟨[(0, .d (.sl 7 (sms (d1 ++ .mk kind name proc args cond body els :: e1b)))), (3, .acc 0), (4, .d (num d1.length)), (5, .box 1 0), (6, .d (num d2.length))], [.acc 217 7 (sms d1), .box 217 [.d (str kind), .d (str name), .d (str proc), .d (.sl 4 (exs args)), .acc 2, .d (.sl 7 (sms body)), .d (.sl 7 (sms els))], .acc 123 1 (cnd d2)]⟩) (cond.length) (⟨[], cond, rfl, rfl, rfl⟩) ?_; rintro k Y ⟨d2, e2, rfl, hl2, rfl⟩
  have hll2 : (cnd cond).length = d2.length + e2.length := by rw [cnd_len3, hl2, List.length_append]
  have hdl2 : d2.length + e2.length ≤ 1073741824 := by rw [hl2, List.length_append] at hbig2; exact hbig2
  refine awp_seq ?_; refine rgs fun E K J O => ?_; refine And.intro ((by omega)) (Exists.intro _ (And.intro (sms_at2 rfl) ?_)); refine O _ (aN [0, 3, 4, 5, 6, 54] rfl rfl ?_); clear O J K E; refine awp_cond2 rfl (onB_intro (fun h2 => ?_) (fun h2 => ?_))
  ·have h2' := of_decide_eq_true h2
   rw [hll2] at h2'
   cases e2 with
   | nil => simp only [List.length_nil] at h2'; omega
   | cons x e2b =>
   subst hl2; simp only [List.length_cons] at hdl2; have hcx := wtC_app d2 (x :: e2b); simp only [wtC] at hcx; refine awp_skip ?_; refine awp_seq ?_; refine awp_block ?_; refine (awp_draw TT_ok mixed p83_9 [12, 14] (fun i => Nat.beq i 1) (by kernel_rfl) fun E K J O => ?_); refine And.intro ((by omega)) (Exists.intro _ (And.intro (sms_at2 rfl) ?_)); refine And.intro (by omega) (Exists.intro _ (And.intro (cnd_at rfl) ?_))
   show aCall _ _ _ _ _ _ _
   refine aR [] rfl rfl rfl (testsOf_spec G x (by omega)) rfl rfl rfl rfl ?_; refine And.intro (And.intro ((by simp only [cnd_len3, chunk_length]; omega)) ((by simp only [cnd_len3, chunk_length, maxLen]; omega))) ?_; refine O _ (aN [0, 3, 4, 5, 6] rfl rfl ?_); clear O J K E; refine rgn fun E K J O => ?_; refine O _ ?_; clear O J K E; exact ⟨_, Nat.lt_succ_self _, _, sub_pick (L := [0, 1, 2]) (slots := [0, 3, 4, 5, 6]) rfl rfl rfl rfl rfl, d2 ++ [x], e2b, rfl, by simp, by rw [← cnd_snoc, List.length_append, wrapId (by omega) (by omega)]; rfl⟩
  have h2' := of_decide_eq_false h2; rw [hll2] at h2'; obtain rfl : e2 = [] := List.eq_nil_of_length_eq_zero (by omega); rw [List.append_nil] at hl2; subst hl2; refine awp_exit ?_; refine awp_norm [0, 3, 4, 5] rfl rfl ?_; refine rgn fun E K J O => ?_; refine And.intro (And.intro ((by simp only [sms_len2, chunk_length]; omega)) ((by simp only [sms_len2, chunk_length, maxLen]; omega))) ?_; refine O _ (aN [0, 3, 4] rfl rfl ?_); clear O J K E; refine rgn fun E K J O => ?_; refine O _ ?_; clear O J K E; exact ⟨_, Nat.lt_succ_self _, _, sub_pick (L := [0]) (slots := [0, 3, 4]) rfl rfl rfl rfl rfl, d1 ++ [.mk kind name proc args cond body els], e1b, rfl, by simp, by rw [← sms_snoc2, List.length_append, wrapId (by omega) (by omega)]; rfl⟩
 have h1' := of_decide_eq_false h1; rw [hll1] at h1'; obtain rfl : e1 = [] := List.eq_nil_of_length_eq_zero (by omega); rw [List.append_nil] at hl1; subst hl1; refine awp_exit ?_; refine awp_norm [3] rfl rfl ?_; refine rgs fun E K J O => ?_; refine O _ (aN [2] rfl rfl ?_); clear O J K E; refine awp_ret ?_; exact ⟨_, [], _, [.d (.sl 7 (sms l))], rfl, rfl, rfl, rfl, rfl, PWs.refl _, rfl⟩
theorem stmtsOf_spec (G : Glob) : ∀ m, OfS G m
 | 0 => fun l h => absurd h (by omega)
 | m + 1 => stmtsOf_step G m (stmtsOf_spec G m)
theorem stmtsOf_all (G : Glob) (l : List Sm) (hw : wtB l ≤ 1000000000) : Spec Tryz.prog G 83 [.d (.sl 7 (sms l))] [] (.ret (.d (.sl 7 (sms l)))) [] := stmtsOf_spec G (fuB l + 1) l (Nat.lt_succ_self _) hw
def p23_6 : Plan := (.take 0 (.load 1 (.take 2 (.load 3 (.take 4 (.take 5 (.take 6 (.load 7 (.take 8 (.load 9 (.take 10 (.take 11 (.take 12 (.load 13 (.one 14 (.one 15 (.one 16 (.take 17 (.one 18 .done)))))))))))))))))))
def p23_10 : Plan := (.take 0 (.load 1 (.take 2 (.take 3 (.take 4 (.load 5 (.take 6 (.load 7 (.take 8 (.take 9 (.take 10 (.load 11 (.take 13 (.load 14 (.take 15 (.take 16 (.take 17 (.load 18 (.alt 12 (.alt 19 (.alt 20 (.one 21 (.one 22 .done)) (.alt 21 (.one 20 (.one 22 .done)) .done)) (.alt 21 (.one 19 (.one 20 (.one 22 .done))) .done)) (.alt 21 (.one 12 (.one 19 (.one 20 (.one 22 .done)))) .done))))))))))))))))))))
def p23_11 : Plan := (.take 0 (.load 1 (.take 2 (.load 3 (.take 4 (.take 5 (.take 6 (.load 7 (.one 8 (.take 9 (.one 10 .done)))))))))))
theorem programOf_spec (G : Glob) (p : Pg) (hw : wtPg p ≤ 1000000000) : Spec Tryz.prog G 23 [.d (.agg p.cs)] [] (.ret (.d (.agg p.cs))) [] := by
 obtain ⟨vars, arrays, procs, main⟩ := p; simp only [wtPg] at hw; have h1 := wtV_len vars; have h2 := wtA_len arrays; have h3 := wtP_len procs
 have hb1 : arrays.length ≤ 1073741824 := by omega
 have hb2 : procs.length ≤ 1073741824 := by omega
 refine spec_of_awp2 TT_ok (N := 87) Tryz.func23 rfl (by rfl) (Nat.le_refl _) rfl ?_; refine rgs fun E K J O => ?_; refine O _ (aN [1, 2] rfl rfl ?_); clear O J K E; refine rgs fun E K J O => ?_; show aCall _ _ _ _ _ _ _; refine aR [] rfl rfl rfl (stmtsOf_all G main (by omega)) rfl rfl rfl rfl ?_; refine O _ (aN [1, 2, 3] rfl rfl ?_); clear O J K E; refine awp_accCell 2 0 9 1 rfl rfl rfl rfl ?_; refine awp_accCell 2 1 169 2 rfl rfl rfl rfl ?_; refine awp_accCell 2 2 159 7 rfl rfl rfl rfl ?_; refine awp_norm [1, 2, 3] rfl rfl ?_; refine rgs fun E K J O => ?_; refine And.intro (And.intro ((by simp only [strs_length, List.length_nil]; omega)) ((by simp only [strs_length, List.length_nil, maxLen]; omega))) ?_; refine O _ (aN [1, 2, 3] rfl rfl ?_); clear O J K E; refine awp_seq ?_; refine rgs fun E K J O => ?_; refine O _ (aN [1, 2, 3, 4] rfl rfl ?_); clear O J K E; refine awp_block ?_; refine awp_loop (fun k Y => ∃ (d1 e1 : List Ar), k = e1.length ∧ arrays = d1 ++ e1 ∧ Y = ⟨[(1, .box 0 0), (2, .box 1 0), (3, .box 2 0), (4, .d (num d1.length))], [.box 37 [.d (.sl 1 (strs vars)), .d (.sl 2 (ars arrays)), .d (.sl 7 (pcs procs)), .d (.sl 7 (sms main))], .box 28 [.d (.s (.slice none 0 0)), .d (.s (.slice none 0 0)), .d (.s (.slice none 0 0)), .d (.s (.slice none 0 0))], .box 28 [.acc 3, .acc 4, .acc 5, .d (.sl 7 (sms main))], .acc 9 1 (strs vars), .acc 169 2 (ars d1), .acc 159 7 (pcs [])]⟩) (arrays.length) (⟨[], arrays, rfl, rfl, rfl⟩) ?_; rintro k Y ⟨d1, e1, rfl, hl1, rfl⟩
 have hll1 : (ars arrays).length = d1.length + e1.length := by rw [ars, List.length_map, hl1, List.length_append]
 have hdl1 : d1.length + e1.length ≤ 1073741824 := by rw [hl1, List.length_append] at hb1; exact hb1
 refine awp_seq ?_; refine rgs fun E K J O => ?_; refine O _ (aN [1, 2, 3, 4, 21] rfl rfl ?_); clear O J K E; refine awp_cond2 rfl (onB_intro (fun h1 => ?_) (fun h1 => ?_))
 ·have h1' := of_decide_eq_true h1
  rw [hll1] at h1'
  cases e1 with
  | nil => simp only [List.length_nil] at h1'; omega
  | cons x e1b =>
  obtain ⟨nm, sz⟩ := x; subst hl1; simp only [List.length_cons] at hdl1; refine awp_skip ?_; refine awp_seq ?_; refine awp_block ?_; refine (awp_draw TT_ok mixed p23_6 [16, 18] (fun _ => true) (by kernel_rfl) fun E K J O => ?_); refine And.intro (by omega) (Exists.intro _ (And.intro (ars_at rfl) ?_)); refine And.intro (by omega) (Exists.intro _ (And.intro (ars_at rfl) ?_)); refine And.intro (And.intro ((by simp only [ars, List.length_map, chunk_length]; omega)) ((by simp only [ars, List.length_map, chunk_length, maxLen]; omega))) ?_; refine O _ (aN [1, 2, 3, 4] rfl rfl ?_); clear O J K E; refine rgn fun E K J O => ?_; refine O _ ?_; clear O J K E; exact ⟨_, Nat.lt_succ_self _, _, sub_pick (L := [0, 1, 2, 3, 4, 5]) (slots := [1, 2, 3, 4]) rfl rfl rfl rfl rfl, d1 ++ [⟨nm, sz⟩], e1b, rfl, by simp, by rw [← ars_snoc, List.length_append, wrapId (by omega) (by omega)]; rfl⟩
 have h1' := of_decide_eq_false h1; rw [hll1] at h1'; obtain rfl : e1 = [] := List.eq_nil_of_length_eq_zero (by omega); rw [List.append_nil] at hl1; subst hl1; refine awp_exit ?_; refine awp_norm [1, 2, 3] rfl rfl ?_; refine awp_seq ?_; refine rgs fun E K J O => ?_; refine O _ (aN [1, 2, 3, 5] rfl rfl ?_); clear O J K E; refine awp_block ?_; refine awp_loop (fun k Y => ∃ (d2 e2 : List Pc), k = e2.length ∧ procs = d2 ++ e2 ∧ Y = ⟨[(1, .box 0 0), (2, .box 1 0), (3, .box 2 0), (5, .d (num d2.length))], [.box 37 [.d (.sl 1 (strs vars)), .d (.sl 2 (ars arrays)), .d (.sl 7 (pcs procs)), .d (.sl 7 (sms main))], .box 28 [.d (.s (.slice none 0 0)), .d (.s (.slice none 0 0)), .d (.s (.slice none 0 0)), .d (.s (.slice none 0 0))], .box 28 [.acc 3, .acc 4, .acc 5, .d (.sl 7 (sms main))], .acc 9 1 (strs vars), .acc 169 2 (ars arrays), .acc 159 7 (pcs d2)]⟩) (procs.length) (⟨[], procs, rfl, rfl, rfl⟩) ?_; rintro k Y ⟨d2, e2, rfl, hl2, rfl⟩
 have hll2 : (pcs procs).length = d2.length + e2.length := by rw [pcs, List.length_map, hl2, List.length_append]
 have hdl2 : d2.length + e2.length ≤ 1073741824 := by rw [hl2, List.length_append] at hb2; exact hb2
 refine awp_seq ?_; refine rgs fun E K J O => ?_; refine O _ (aN [1, 2, 3, 5, 46] rfl rfl ?_); clear O J K E; refine awp_cond2 rfl (onB_intro (fun h2 => ?_) (fun h2 => ?_))
 ·have h2' := of_decide_eq_true h2
  rw [hll2] at h2'
  cases e2 with
  | nil => simp only [List.length_nil] at h2'; omega
  | cons x e2b =>
  obtain ⟨nm, ps, bd, rt⟩ := x; obtain ⟨p1, n1, m1, l1⟩ := rt; subst hl2; simp only [List.length_cons] at hdl2; have hpx := wtP_app d2 (⟨nm, ps, bd, .mk p1 n1 m1 l1⟩ :: e2b); simp only [wtP] at hpx; have hpl := wtV_len ps; refine awp_skip ?_; refine awp_seq ?_; refine awp_block ?_; refine awp_cut (fun Z => Z = ⟨[(1, .box 0 0), (2, .box 1 0), (3, .box 2 0), (5, .d (num d2.length)), (6, .box 6 0)], [.box 37 [.d (.sl 1 (strs vars)), .d (.sl 2 (ars arrays)), .d (.sl 7 (pcs (d2 ++ ⟨nm, ps, bd, .mk p1 n1 m1 l1⟩ :: e2b))), .d (.sl 7 (sms main))], .box 28 [.d (.s (.slice none 0 0)), .d (.s (.slice none 0 0)), .d (.s (.slice none 0 0)), .d (.s (.slice none 0 0))], .box 28 [.acc 3, .acc 4, .acc 5, .d (.sl 7 (sms main))], .acc 9 1 (strs vars), .acc 169 2 (ars arrays), .acc 159 7 (pcs d2), .box 159 [.d (str nm), .d (.s (.slice none 0 0)), .d (.sl 7 (sms bd)), .d (str p1), .d (num n1), .d (str m1), .d (.sl 4 (exs l1))]]⟩) ?_ ?_
  ·refine (awp_draw TT_ok mixed p23_10 [22] (fun i => Nat.beq i 0) (by kernel_rfl) fun E K J O => ?_)
   refine And.intro (by omega) (Exists.intro _ (And.intro (pcs_at rfl) ?_)); refine And.intro (by omega) (Exists.intro _ (And.intro (pcs_at rfl) ?_)); refine And.intro (by omega) (Exists.intro _ (And.intro (pcs_at rfl) ?_)); refine And.intro ?_ ?_
   ·show aCall _ _ _ _ _ _ _
    refine aR [] rfl rfl rfl (stmtsOf_all G bd (by omega)) rfl rfl rfl rfl ?_; refine And.intro ?_ ?_
    ·show aCall _ _ _ _ _ _ _
     refine aR [] rfl rfl rfl (exprOf_spec G (.mk p1 n1 m1 l1) (by omega)) rfl rfl rfl rfl ?_; refine And.intro ?_ ?_
     ·refine O _ ?_; clear O J K E
      exact ⟨_, sub_norm (slots := [1, 2, 3, 5, 6]) rfl rfl, rfl⟩
     refine And.intro ?_ ?_
     ·refine O _ ?_; clear O J K E
      exact ⟨_, sub_norm (slots := [1, 2, 3, 5, 6]) rfl rfl, rfl⟩
     trivial
    refine And.intro ?_ ?_
    ·show aCall _ _ _ _ _ _ _
     refine aR [] rfl rfl rfl (exprOf_spec G (.mk p1 n1 m1 l1) (by omega)) rfl rfl rfl rfl ?_; refine O _ ?_; clear O J K E; exact ⟨_, sub_norm (slots := [1, 2, 3, 5, 6]) rfl rfl, rfl⟩
    trivial
   refine And.intro ?_ ?_
   ·show aCall _ _ _ _ _ _ _
    refine aR [] rfl rfl rfl (stmtsOf_all G bd (by omega)) rfl rfl rfl rfl ?_
    show aCall _ _ _ _ _ _ _
    refine aR [] rfl rfl rfl (exprOf_spec G (.mk p1 n1 m1 l1) (by omega)) rfl rfl rfl rfl ?_; refine O _ ?_; clear O J K E; exact ⟨_, sub_norm (slots := [1, 2, 3, 5, 6]) rfl rfl, rfl⟩
   trivial
  rintro Z rfl; refine awp_accCell 6 1 9 1 rfl rfl rfl rfl ?_; refine awp_norm [1, 2, 3, 5, 6] rfl rfl ?_; refine awp_seq ?_; refine (awp_draw TT_ok mixed p23_11 [8, 10] (fun _ => true) (by kernel_rfl) fun E K J O => ?_); refine And.intro (by omega) (Exists.intro _ (And.intro (pcs_at rfl) ?_)); refine And.intro (And.intro ((by simp only [strs_length, List.length_nil]; omega)) ((by simp only [strs_length, List.length_nil, maxLen]; omega))) ?_; refine O _ (aN [1, 2, 3, 5, 6] rfl rfl ?_); clear O J K E; refine rgn fun E K J O => ?_; refine And.intro (And.intro ((by simp only [pcs, List.length_map, chunk_length]; omega)) ((by simp only [pcs, List.length_map, chunk_length, maxLen]; omega))) ?_; refine O _ (aN [1, 2, 3, 5] rfl rfl ?_); clear O J K E; refine rgn fun E K J O => ?_; refine O _ ?_; clear O J K E; exact ⟨_, Nat.lt_succ_self _, _, sub_pick (L := [0, 1, 2, 3, 4, 5]) (slots := [1, 2, 3, 5]) rfl rfl rfl rfl rfl, d2 ++ [⟨nm, ps, bd, .mk p1 n1 m1 l1⟩], e2b, rfl, by simp, by rw [← pcs_snoc, List.length_append, wrapId (by omega) (by omega)]; rfl⟩
 have h2' := of_decide_eq_false h2; rw [hll2] at h2'; obtain rfl : e2 = [] := List.eq_nil_of_length_eq_zero (by omega); rw [List.append_nil] at hl2; subst hl2; refine awp_exit ?_; refine awp_norm [2, 3] rfl rfl ?_; refine rgs fun E K J O => ?_; refine O _ (aN [2] rfl rfl ?_); clear O J K E; refine awp_ret ?_; exact ⟨_, [], _, [encP ⟨vars, arrays, procs, main⟩], rfl, rfl, rfl, rfl, rfl, PWs.refl _, rfl⟩
end Go.Abs
end
section
namespace Go.Abs
open Go Go.Proofs
mutual
def dpS : Sm → Int
 | .mk _ _ _ _ _ body els => 1 + max (dpB body) (dpB els)
def dpB : List Sm → Int
 | [] => 0
 | s :: r => max (dpS s) (dpB r)
end
end Go.Abs
end
section
namespace Go.Abs
open Go Go.Proofs
attribute [local irreducible] aCall AWp Sub Spec
set_option maxHeartbeats 1000000
end Go.Abs
end
section
namespace Go.Abs
open Go Go.Proofs
attribute [local irreducible] aCall AWp Sub Spec
/-- Small enough for Back. -/
structure BkOk (p : Pg) : Prop where
 wt : wtPg p ≤ 1000000000
 md : dpB p.main < 50
 mo : okB 9900 p.main = true
 pc : ∀ f, f ∈ p.procs → dpB f.body < 50 ∧ okB 9900 f.body = true ∧ fuE f.ret ≤ 9900
set_option maxHeartbeats 1000000
section
variable {t : Nat → TypeId} {u : Nat → Value}
end
end Go.Abs
end
section
namespace Go.Abs
open Go Go.Proofs
attribute [local irreducible] aCall AWp Sub Spec
set_option maxHeartbeats 1000000
end Go.Abs
end
section
namespace Go.Abs
open Go Go.Proofs Go.Abs.PrintLast
section
variable {P : Program} {T : Tab} {G : Glob} {D : List Deferred} {N B : Nat} {H H00 : Nat → Option Value} {lim lim00 : Nat → Nat} {w w00 : World} {ops : Array Oper} {Q : AExit → St → Prop}
end
attribute [local irreducible] aCall AWp Sub Spec
end Go.Abs
end
section
namespace Go.Abs
open Go Go.Proofs
def dpP (l : List Pc) : Prop := ∀ f, f ∈ l → dpB f.body ≤ 12
/-- What is read is no greater than so. -/
structure PgG (N : Nat) (g : Pg) : Prop where
 wt : wtPg g ≤ 1000000
 ok : okPg N 16003 g = true
 main : dpB g.main ≤ 12
 procs : dpP g.procs
end Go.Abs
end
section
namespace Go.Abs
open Go Go.Proofs
attribute [local irreducible] aCall AWp Sub Spec
section
variable {t : Nat → TypeId} {u : Nat → Value}
end
end Go.Abs
end
section
namespace Go.Abs
open Go Go.Proofs
section
variable {t : Nat → TypeId} {u : Nat → Value}
end
end Go.Abs
end
section
namespace Go.Abs
open Go Go.Proofs
def has {α : Type} (x : TM α) (a : α) : Prop := ∃ k, x = some (a, k)
structure GP (p : ByteArray → Prop) (m : Nat) (r : GT) : Prop where
 ex : ∃ s b, r = some (s, b) ∧ s.size ≤ m ∧ (b = true → p s) ∧ (∀ t, p t → t.size ≤ 4000 → b = true)
theorem GP.no {p : ByteArray → Prop} {m : Nat} (h : ∀ t, p t → 4000 < t.size) : GP p m (some (⟨#[]⟩, false)) :=
 ⟨⟨_, _, rfl, Nat.zero_le _, fun q => Bool.noConfusion q, fun t e q => by have := h t e; omega⟩⟩
theorem GP.congr {p q : ByteArray → Prop} {m m' : Nat} {r : GT} (h : GP p m r) (hm : m ≤ m') (hp : ∀ t, p t ↔ q t) : GP q m' r := by
 obtain ⟨s, b, h1, h2, h3, h4⟩ := h.ex; exact ⟨⟨s, b, h1, by omega, fun z => (hp s).1 (h3 z), fun t z => h4 t ((hp t).2 z)⟩⟩
theorem GP.fit {p : ByteArray → Prop} {m : Nat} {s : ByteArray} {b : Bool} (hs : s.size ≤ m) (hm : m ≤ 1073741824) (h1 : b = true → p s) (h2 : ∀ t, p t → t.size ≤ 4000 → b = true) : GP p m (fitG s b) :=
 ⟨⟨s, b, fitG_small (by omega), hs, h1, h2⟩⟩
end Go.Abs
end
section
namespace Go.Abs
open Go Go.Proofs
end Go.Abs
end
section
namespace Go.Abs
open Go Go.Proofs
structure GQ (p : ByteArray → Prop) (r : GT) : Prop where
 ex : ∃ s b, r = some (s, b) ∧ (b = true → p s ∧ s.size ≤ 4000) ∧ (∀ t, p t → t.size ≤ 4000 → b = true)
theorem GQ.no {p : ByteArray → Prop} (h : ∀ t, p t → 4000 < t.size) : GQ p (some (⟨#[]⟩, false)) :=
 ⟨⟨_, _, rfl, fun q => Bool.noConfusion q, fun t e q => by have := h t e; omega⟩⟩
theorem GQ.congr {p q : ByteArray → Prop} {r : GT} (h : GQ p r) (hp : ∀ t, p t ↔ q t) : GQ q r := by
 obtain ⟨s, b, h1, h3, h4⟩ := h.ex; exact ⟨⟨s, b, h1, fun z => ⟨(hp s).1 (h3 z).1, (h3 z).2⟩, fun t z => h4 t ((hp t).2 z)⟩⟩
end Go.Abs
end
section
namespace Go.Abs
open Go Go.Proofs
def bs8 (t : ByteArray) : List UInt8 := t.data.toList
theorem bs8_eq {a b : ByteArray} (h : bs8 a = bs8 b) : a = b := by
 apply ByteArray.ext; exact Array.toList_inj.1 h
/-- The reader stands before these bytes. -/
def Rem (s : ByteArray) (p : PS s) (l : List UInt8) : Prop := ∃ j, j ≤ s.size ∧ (bs8 s).drop j = l ∧ p.i = spaceF s (s.size - j) j ∧ p.w = (s.extract p.i s.size).extract 0 (wordLen (s.extract p.i s.size))
section
variable {s : ByteArray} {p : PS s}
end
/-- No letter and no digit stands first. -/
def brk (l : List UInt8) : Prop := ∀ c, l.head? = some c → isL c.toNat = false ∧ isD c.toNat = false
section
variable {s : ByteArray} {p : PS s}
end
end Go.Abs
end
section
namespace Go.Abs
open Go Go.Proofs
/-- This is read, and then these bytes are left (or there is no answer within so many steps). -/
def Gets {s : ByteArray} {α : Type} (r : R s α) (a : α) (l : List UInt8) : Prop := match r with
 | .ok b q => b = a ∧ Rem s q l
 | .bad _ _ => False
 | .out => True
section
variable {s : ByteArray}
end
end Go.Abs
end
section
namespace Go.Abs
open Go Go.Proofs
section
variable {s : ByteArray}
def Via1 (r : R s Ex) (d : Int) (e : Ex) (l : List UInt8) : Prop := r = .out ∨ ∃ n q, Rem s q l ∧ r = termL s n d e q
def Via2 (r : R s Ex) (d : Int) (e : Ex) (l : List UInt8) : Prop := r = .out ∨ ∃ n q, Rem s q l ∧ r = prodL s n d e q
/-- What may stand behind a factor, a product, a term. -/
def St3 (s : ByteArray) (l : List UInt8) : Prop := ∀ q : PS s, Rem s q l → eqW q.w ⟨#[91]⟩ = false
def St2 (s : ByteArray) (l : List UInt8) : Prop := ∀ q : PS s, Rem s q l → eqW q.w ⟨#[91]⟩ = false ∧ (eqW q.w ⟨#[42]⟩ || eqW q.w ⟨#[47]⟩ || eqW q.w ⟨#[37]⟩) = false
def St1 (s : ByteArray) (l : List UInt8) : Prop := ∀ q : PS s, Rem s q l → eqW q.w ⟨#[91]⟩ = false ∧ (eqW q.w ⟨#[42]⟩ || eqW q.w ⟨#[47]⟩ || eqW q.w ⟨#[37]⟩) = false ∧ (eqW q.w ⟨#[43]⟩ || eqW q.w ⟨#[45]⟩) = false
theorem St1.two {l : List UInt8} (h : St1 s l) : St2 s l := fun q hq => ⟨(h q hq).1, (h q hq).2.1⟩
theorem closeI_some {r : Int} {b : Int → TIs} {least d : Int} {t : ByteArray} {k : Nat} (h : closeI r b least d = some (t, k)) : d ≤ 12 ∧ ((r < least ∧ d + 1 ≤ 12 ∧ ∃ t' k', b (d + 1) = some (t', k') ∧ t = (⟨#[40]⟩ ++ t') ++ ⟨#[41]⟩) ∨ (¬ r < least ∧ ∃ k', b d = some (t, k'))) := by
 unfold closeI at h
 cases hd : decide (d ≤ 12) with
 | false => rw [hd] at h; cases h
 | true =>
  rw [hd] at h; refine ⟨of_decide_eq_true hd, ?_⟩
  cases hr : decide (r < least) with
  | true =>
   rw [hr] at h
   cases hd1 : decide (d + 1 ≤ 12) with
   | false => rw [hd1] at h; cases h
   | true =>
    rw [hd1] at h
    cases hb : b (d + 1) with
    | none => rw [hb] at h; cases h
    | some y =>
     obtain ⟨t', k'⟩ := y; rw [hb] at h; simp only [Option.map_some, Option.some.injEq, Prod.mk.injEq] at h; exact .inl ⟨of_decide_eq_true hr, of_decide_eq_true hd1, t', k', rfl, h.1.symm⟩
  | false =>
   rw [hr] at h
   cases hb : b d with
   | none => rw [hb] at h; cases h
   | some y =>
    obtain ⟨t', k'⟩ := y; rw [hb] at h; simp only [Option.map_some, Option.some.injEq, Prod.mk.injEq] at h; exact .inr ⟨of_decide_eq_false hr, k', by rw [h.1]⟩
/-- What a term's own text says of it. -/
theorem body_some {op : ByteArray} {n : Int} {nm : ByteArray} {l : List Ex} {d : Int} {t : ByteArray} {k : Nat} (h : bodyI (.mk op n nm l) d = some (t, k)) :
  (op = ⟨#[110, 117, 109]⟩ ∧ nm = ⟨#[]⟩ ∧ l = [] ∧ n ≥ 0 ∧ n ≤ 1099511627776 ∧ t = itoaB n) ∨
  (op = ⟨#[118, 97, 114]⟩ ∧ n = 0 ∧ l = [] ∧ isNameF nm = true ∧ t = nm) ∨
  (op = ⟨#[97, 116]⟩ ∧ n = 0 ∧ isNameF nm = true ∧ ∃ x t' k', l = [x] ∧ exprI x 1 (d + 1) = some (t', k') ∧ t = ((nm ++ ⟨#[91]⟩) ++ t') ++ ⟨#[93]⟩) ∨
  (op = ⟨#[110, 101, 103]⟩ ∧ n = 0 ∧ nm = ⟨#[]⟩ ∧ ∃ x t' k', l = [x] ∧ exprI x 3 (d + 1) = some (t', k') ∧ t = ⟨#[45]⟩ ++ t') ∨
  (binF op = true ∧ n = 0 ∧ nm = ⟨#[]⟩ ∧ ∃ x y t1 k1 t2 k2, l = [x, y] ∧ exprI x (rankF op) d = some (t1, k1) ∧ exprI y (rankF op + 1) d = some (t2, k2) ∧ t = (((t1 ++ ⟨#[32]⟩) ++ op) ++ ⟨#[32]⟩) ++ t2) := by
 have hlen : ∀ l : List Ex, ∀ m : Nat, (((exs l).length : Int) == (m : Int)) = true → l.length = m := by
  intro l m h; have := eq_of_beq h; rw [exs_length] at this; omega
 unfold bodyI at h
 split at h
 ·rename_i h1
  split at h
  ·rename_i h2
   simp only [Bool.and_eq_true, decide_eq_true_eq] at h2; simp only [Option.some.injEq, Prod.mk.injEq] at h; exact .inl ⟨eqW_eq h1, eqW_eq h2.1.2, List.eq_nil_of_length_eq_zero (hlen l 0 h2.2), h2.1.1.1, h2.1.1.2, h.1.symm⟩
  cases h
 split at h
 ·rename_i h1
  split at h
  ·rename_i h2
   simp only [Bool.and_eq_true] at h2; simp only [Option.some.injEq, Prod.mk.injEq] at h; exact .inr (.inl ⟨eqW_eq h1, eq_of_beq h2.1.1, List.eq_nil_of_length_eq_zero (hlen l 0 h2.1.2), h2.2, h.1.symm⟩)
  cases h
 split at h
 ·rename_i h1
  split at h
  ·rename_i x h2
   simp only [Bool.and_eq_true] at h2
   cases hx : closeI (rankF x.op) (bodyI x) 1 (d + 1) with
   | none => rw [hx] at h; cases h
   | some y =>
    obtain ⟨t', k'⟩ := y; rw [hx] at h; simp only [Option.map_some, Option.some.injEq, Prod.mk.injEq] at h; exact .inr (.inr (.inl ⟨eqW_eq h1, eq_of_beq h2.1.1, h2.2, x, t', k', rfl, hx, h.1.symm⟩))
  cases h
 split at h
 ·rename_i h1
  split at h
  ·rename_i x h2
   simp only [Bool.and_eq_true] at h2
   cases hx : closeI (rankF x.op) (bodyI x) 3 (d + 1) with
   | none => rw [hx] at h; cases h
   | some y =>
    obtain ⟨t', k'⟩ := y; rw [hx] at h; simp only [Option.map_some, Option.some.injEq, Prod.mk.injEq] at h; exact .inr (.inr (.inr (.inl ⟨eqW_eq h1, eq_of_beq h2.1.1, eqW_eq h2.1.2, x, t', k', rfl, hx, h.1.symm⟩)))
  cases h
 split at h
 ·rename_i x y h2
  simp only [Bool.and_eq_true] at h2
  cases hx : closeI (rankF x.op) (bodyI x) (rankF op) d with
  | none => rw [hx] at h; cases h
  | some u =>
   obtain ⟨t1, k1⟩ := u; rw [hx] at h; simp only [Option.bind_some] at h
   cases hy : closeI (rankF y.op) (bodyI y) (rankF op + 1) d with
   | none => rw [hy] at h; cases h
   | some v =>
    obtain ⟨t2, k2⟩ := v; rw [hy] at h; simp only [Option.map_some, Option.some.injEq, Prod.mk.injEq] at h; exact .inr (.inr (.inr (.inr ⟨h2.1, eq_of_beq h2.2.1.1, eqW_eq h2.2.1.2, x, y, t1, k1, t2, k2, rfl, hx, hy, h.1.symm⟩)))
 cases h
/-- What is to be shown of a term. -/
structure XOk (s : ByteArray) (e : Ex) : Prop where
 x3 : ∀ (d : Int) (t : ByteArray) (k n : Nat) (p : PS s) (l : List UInt8), 0 ≤ d → exprI e 3 d = some (t, k) → brk l → St3 s l → Rem s p (bs8 t ++ l) → Gets (factorF s n d p) e l
 x2 : ∀ (d : Int) (t : ByteArray) (k n : Nat) (p : PS s) (l : List UInt8), 0 ≤ d → exprI e 2 d = some (t, k) → brk l → St3 s l → Rem s p (bs8 t ++ l) → Via2 (productF s n d p) d e l
 x1 : ∀ (d : Int) (t : ByteArray) (k n : Nat) (p : PS s) (l : List UInt8), 0 ≤ d → exprI e 1 d = some (t, k) → brk l → St2 s l → Rem s p (bs8 t ++ l) → Via1 (termF s n d p) d e l
end
end Go.Abs
end
section
namespace Go.Abs
open Go Go.Proofs
def tl8 (sep : List UInt8) : List ByteArray → List UInt8
 | [] => []
 | x :: r => sep ++ (bs8 x ++ tl8 sep r)
theorem tl8_tail (sep : List UInt8) : ∀ r : List ByteArray, Lib.joinTail sep (r.map (·.data.toList)) = tl8 sep r
 | [] => rfl
 | x :: r => by
  have := tl8_tail sep r; simp only [Lib.joinTail] at this; simp only [Lib.joinTail, List.map_cons, List.flatten_cons, tl8, this, List.append_assoc]
  rfl
theorem join_cons (sep : ByteArray) (x : ByteArray) (r : List ByteArray) : bs8 (joinB (x :: r) sep) = bs8 x ++ tl8 (bs8 sep) r := by
 show Lib.join (x.data.toList :: r.map (·.data.toList)) sep.data.toList = _
 rw [Lib.join_cons, tl8_tail]
 rfl
section
variable {s : ByteArray}
end
end Go.Abs
end
section
namespace Go.Abs
open Go Go.Proofs
theorem bare_some {wn wp wa wc wb we : Bool} {kind name proc : ByteArray} {args : List Ex} {cond : List (List Ts)} {body els : List Sm} (h : bareF wn wp wa wc wb we (.mk kind name proc args cond body els) = true) : (wn = false → name = ⟨#[]⟩) ∧ (wp = false → proc = ⟨#[]⟩) ∧ (wa = false → args = []) ∧ (wc = false → cond = []) ∧ (wb = false → body = []) ∧ (we = false → els = []) := by
 simp only [bareF, Bool.and_eq_true, Bool.or_eq_true] at h; obtain ⟨⟨⟨⟨⟨h1, h2⟩, h3⟩, h4⟩, h5⟩, h6⟩ := h; refine ⟨fun q => ?_, fun q => ?_, fun q => ?_, fun q => ?_, fun q => ?_, fun q => ?_⟩
 ·rcases h1 with h | h
  ·exact eqW_eq h
  rw [q] at h; cases h
 ·rcases h2 with h | h
  ·exact eqW_eq h
  rw [q] at h; cases h
 ·rcases h3 with h | h
  ·have := eq_of_beq h
   rw [exs_length] at this; exact List.eq_nil_of_length_eq_zero (by omega)
  rw [q] at h; cases h
 ·rcases h4 with h | h
  ·have := eq_of_beq h
   rw [cnd_length] at this; exact List.eq_nil_of_length_eq_zero (by omega)
  rw [q] at h; cases h
 ·rcases h5 with h | h
  ·have := eq_of_beq h
   rw [sms_length] at this; exact List.eq_nil_of_length_eq_zero (by omega)
  rw [q] at h; cases h
 rcases h6 with h | h
 ·have := eq_of_beq h
  rw [sms_length] at this; exact List.eq_nil_of_length_eq_zero (by omega)
 rw [q] at h; cases h
theorem list_one {x : Ex} {t : ByteArray} {k : Nat} (h : listJ [x] = some (t, k)) : ∃ k1, exprI x 1 1 = some (t, k1) := by
 obtain ⟨ss, k1, i1, h1, h2, _⟩ := bd_some h; obtain ⟨rfl, _⟩ := ret_some h2; obtain ⟨t, k3, i3, h5, h2, _⟩ := bd_some h1; obtain ⟨rs, k2, i2, h3, h4, _⟩ := bd_some h2; obtain ⟨rfl, _⟩ := ret_some h4; obtain ⟨rfl, _⟩ := ret_some h3; have e : joinB [t] ⟨#[44, 32]⟩ = t := bs8_eq (by rw [join_cons]; simp [tl8]); rw [e]; exact ⟨k3, h5⟩
/-- What a statement's text says of it. -/
theorem stmt_some {kind name proc : ByteArray} {args : List Ex} {cond : List (List Ts)} {body els : List Sm} {k : Nat} {t : ByteArray} {j : Nat} (h : stmtI (.mk kind name proc args cond body els) k = some (t, j)) :
  (kind = ⟨#[115, 101, 116]⟩ ∧ proc = ⟨#[]⟩ ∧ cond = [] ∧ body = [] ∧ els = [] ∧ isNameF name = true ∧ ∃ x t1 k1, args = [x] ∧ exprI x 1 1 = some (t1, k1) ∧ t = lnI k (((name ++ ⟨#[32, 61, 32]⟩) ++ t1) ++ ⟨#[59]⟩)) ∨
  (kind = ⟨#[112, 117, 116]⟩ ∧ proc = ⟨#[]⟩ ∧ cond = [] ∧ body = [] ∧ els = [] ∧ isNameF name = true ∧ ∃ x y t1 k1 t2 k2, args = [x, y] ∧ exprI x 1 1 = some (t1, k1) ∧ exprI y 1 1 = some (t2, k2) ∧ t = lnI k (((((name ++ ⟨#[91]⟩) ++ t1) ++ ⟨#[93, 32, 61, 32]⟩) ++ t2) ++ ⟨#[59]⟩)) ∨
  (kind = ⟨#[99, 97, 108, 108]⟩ ∧ cond = [] ∧ body = [] ∧ els = [] ∧ isNameF name = true ∧ isNameF proc = true ∧ ∃ t1 k1, listJ args = some (t1, k1) ∧ t = lnI k (((((name ++ ⟨#[32, 61, 32, 99, 97, 108, 108, 32]⟩) ++ proc) ++ ⟨#[40]⟩) ++ t1) ++ ⟨#[41, 59]⟩)) ∨
  (kind = ⟨#[105, 102]⟩ ∧ name = ⟨#[]⟩ ∧ proc = ⟨#[]⟩ ∧ args = [] ∧ ∃ c k1 b k2 r, condI cond = some (c, k1) ∧ blockI body (k + 1) = some (b, k2) ∧ t = lnI k ((⟨#[105, 102, 32]⟩ ++ c) ++ ⟨#[32, 123]⟩) ++ (b ++ r) ∧ ((els = [] ∧ r = lnI k ⟨#[125]⟩) ∨ ∃ e k3, blockI els (k + 1) = some (e, k3) ∧ r = lnI k ⟨#[125, 32, 101, 108, 115, 101, 32, 123]⟩ ++ (e ++ lnI k ⟨#[125]⟩))) ∨
  (kind = ⟨#[119, 104, 105, 108, 101]⟩ ∧ name = ⟨#[]⟩ ∧ proc = ⟨#[]⟩ ∧ args = [] ∧ els = [] ∧ ∃ c k1 b k2, condI cond = some (c, k1) ∧ blockI body (k + 1) = some (b, k2) ∧ t = lnI k ((⟨#[119, 104, 105, 108, 101, 32]⟩ ++ c) ++ ⟨#[32, 123]⟩) ++ (b ++ lnI k ⟨#[125]⟩)) ∨
  ((kind = ⟨#[97, 115, 115, 101, 114, 116]⟩ ∨ kind = ⟨#[97, 115, 115, 117, 109, 101]⟩) ∧ name = ⟨#[]⟩ ∧ proc = ⟨#[]⟩ ∧ args = [] ∧ body = [] ∧ els = [] ∧ ∃ c k1, condI cond = some (c, k1) ∧ t = lnI k (((kind ++ ⟨#[32]⟩) ++ c) ++ ⟨#[59]⟩)) ∨
  (kind = ⟨#[114, 101, 97, 100]⟩ ∧ proc = ⟨#[]⟩ ∧ args = [] ∧ cond = [] ∧ body = [] ∧ els = [] ∧ isNameF name = true ∧ t = lnI k ((⟨#[114, 101, 97, 100, 32]⟩ ++ name) ++ ⟨#[59]⟩)) := by
 have hlen : ∀ l : List Ex, ∀ m : Nat, (((exs l).length : Int) == (m : Int)) = true → l.length = m := by
  intro l m h; have := eq_of_beq h; rw [exs_length] at this; omega
 unfold stmtI at h
 split at h
 ·rename_i h1
  obtain ⟨g1, h⟩ := grd_some h; obtain ⟨g2, h⟩ := grd_some h; rw [Bool.and_eq_true] at g1; obtain ⟨b1, b2, b3, b4, b5, b6⟩ := bare_some g1.1; obtain ⟨x, rfl⟩ := List.length_eq_one_iff.1 (hlen args 1 g1.2); obtain ⟨t1, k1, i1, h2, h3, _⟩ := bd_some h; obtain ⟨rfl, _⟩ := ret_some h3; obtain ⟨k2, h4⟩ := list_one h2; exact .inl ⟨eqW_eq h1, b2 rfl, b4 rfl, b5 rfl, b6 rfl, g2, x, t1, k2, rfl, h4, rfl⟩
 split at h
 ·rename_i h1
  obtain ⟨g1, h⟩ := grd_some h; obtain ⟨g2, h⟩ := grd_some h; rw [Bool.and_eq_true] at g1; obtain ⟨b1, b2, b3, b4, b5, b6⟩ := bare_some g1.1; split at h
  ·rename_i x y _ _
   obtain ⟨t1, k1, i1, h2, h3, _⟩ := bd_some h; obtain ⟨t2, k2, i2, h4, h5, _⟩ := bd_some h3; obtain ⟨rfl, _⟩ := ret_some h5; exact .inr (.inl ⟨eqW_eq h1, b2 rfl, b4 rfl, b5 rfl, b6 rfl, g2, x, y, t1, k1, t2, k2, rfl, h2, h4, rfl⟩)
  cases h
 split at h
 ·rename_i h1
  obtain ⟨g1, h⟩ := grd_some h; obtain ⟨g2, h⟩ := grd_some h; obtain ⟨g3, h⟩ := grd_some h; obtain ⟨b1, b2, b3, b4, b5, b6⟩ := bare_some g1; obtain ⟨t1, k1, i1, h2, h3, _⟩ := bd_some h; obtain ⟨rfl, _⟩ := ret_some h3; exact .inr (.inr (.inl ⟨eqW_eq h1, b4 rfl, b5 rfl, b6 rfl, g2, g3, t1, k1, h2, rfl⟩))
 split at h
 ·rename_i h1
  obtain ⟨g1, h⟩ := grd_some h; obtain ⟨b1, b2, b3, b4, b5, b6⟩ := bare_some g1; obtain ⟨c, k1, i1, h2, h3, _⟩ := bd_some h; obtain ⟨a1, a2, k2, i2, h4, h5, rfl, _⟩ := sq_some h3; obtain ⟨rfl, _⟩ := ret_some h4; obtain ⟨b, r, k3, i3, h6, h7, rfl, _⟩ := sq_some h5; refine .inr (.inr (.inr (.inl ⟨eqW_eq h1, b1 rfl, b2 rfl, b3 rfl, c, k1, b, k3, r, h2, h6, rfl, ?_⟩))); split at h7
  ·obtain ⟨a3, a4, k4, i4, h8, h9, rfl, _⟩ := sq_some h7
   obtain ⟨rfl, _⟩ := ret_some h8; obtain ⟨e, a5, k5, i5, h10, h11, rfl, _⟩ := sq_some h9; obtain ⟨rfl, _⟩ := ret_some h11; exact .inr ⟨e, k5, h10, rfl⟩
  rename_i h8; obtain ⟨rfl, _⟩ := ret_some h7; have := of_decide_eq_false h8; rw [sms_length] at this; exact .inl ⟨List.eq_nil_of_length_eq_zero (by omega), rfl⟩
 split at h
 ·rename_i h1
  obtain ⟨g1, h⟩ := grd_some h; obtain ⟨b1, b2, b3, b4, b5, b6⟩ := bare_some g1; obtain ⟨c, k1, i1, h2, h3, _⟩ := bd_some h; obtain ⟨a1, a2, k2, i2, h4, h5, rfl, _⟩ := sq_some h3; obtain ⟨rfl, _⟩ := ret_some h4; obtain ⟨b, r, k3, i3, h6, h7, rfl, _⟩ := sq_some h5; obtain ⟨rfl, _⟩ := ret_some h7; exact .inr (.inr (.inr (.inr (.inl ⟨eqW_eq h1, b1 rfl, b2 rfl, b3 rfl, b6 rfl, c, k1, b, k3, h2, h6, rfl⟩))))
 split at h
 ·rename_i h1
  obtain ⟨g1, h⟩ := grd_some h; obtain ⟨b1, b2, b3, b4, b5, b6⟩ := bare_some g1; obtain ⟨c, k1, i1, h2, h3, _⟩ := bd_some h; obtain ⟨rfl, _⟩ := ret_some h3; rw [Bool.or_eq_true] at h1; refine .inr (.inr (.inr (.inr (.inr (.inl ⟨?_, b1 rfl, b2 rfl, b3 rfl, b5 rfl, b6 rfl, c, k1, h2, rfl⟩)))))
  rcases h1 with h1 | h1
  ·exact .inl (eqW_eq h1)
  exact .inr (eqW_eq h1)
 split at h
 ·rename_i h1
  obtain ⟨g1, h⟩ := grd_some h; obtain ⟨g2, h⟩ := grd_some h; obtain ⟨b1, b2, b3, b4, b5, b6⟩ := bare_some g1; obtain ⟨rfl, _⟩ := ret_some h; exact .inr (.inr (.inr (.inr (.inr (.inr ⟨eqW_eq h1, b2 rfl, b3 rfl, b4 rfl, b5 rfl, b6 rfl, g2, rfl⟩)))))
 cases h
section
variable {s : ByteArray}
end
end Go.Abs
end
section
namespace Go.Proofs
open Go.Shelf
def Tryz.lays190_ren : Go.Shelf.Ren := ⟨fun | 190 => 115 | 125 => 177 | 258 => 176 | 128 => 236 | 129 => 237 | 302 => 227 | 303 => 228 | 304 => 229 | 305 => 230 | 306 => 231 | 307 => 232 | 308 => 233 | 309 => 234 | 310 => 235 | 333 => 263 | 329 => 264 | 330 => 265 | 334 => 266 | 335 => 267 | 336 => 268 | 344 => 282 | n => n, fun | 31 => 23 | 9 => 9 | 3 => 3 | 46 => 286 | 0 => 0 | 51 => 343 | 53 => 345 | 4 => 4 | 183 => 337 | 182 => 336 | 131 => 240 | 5 => 5 | 218 => 380 | 222 => 384 | 228 => 399 | 229 => 149 | n => n, fun | n => n⟩
theorem Tryz.lays190 : Go.Proofs.Lays.n190 Tryz.prog Tryz.lays190_ren := {
 mixed := by kernel_rfl
 f125 := Tryz.func177.trans (congrArg some (by kernel_rfl))
 f128 := Tryz.func236.trans (congrArg some (by kernel_rfl))
 f129 := Tryz.func237.trans (congrArg some (by kernel_rfl))
 f190 := Tryz.func115.trans (congrArg some (by kernel_rfl))
 f258 := Tryz.func176.trans (congrArg some (by kernel_rfl))
 f302 := Tryz.func227.trans (congrArg some (by kernel_rfl))
 f303 := Tryz.func228.trans (congrArg some (by kernel_rfl))
 f304 := Tryz.func229.trans (congrArg some (by kernel_rfl))
 f305 := Tryz.func230.trans (congrArg some (by kernel_rfl))
 f306 := Tryz.func231.trans (congrArg some (by kernel_rfl))
 f307 := Tryz.func232.trans (congrArg some (by kernel_rfl))
 f308 := Tryz.func233.trans (congrArg some (by kernel_rfl))
 f309 := Tryz.func234.trans (congrArg some (by kernel_rfl))
 f310 := Tryz.func235.trans (congrArg some (by kernel_rfl))
 f329 := Tryz.func264.trans (congrArg some (by kernel_rfl))
 f330 := Tryz.func265.trans (congrArg some (by kernel_rfl))
 f333 := Tryz.func263.trans (congrArg some (by kernel_rfl))
 f334 := Tryz.func266.trans (congrArg some (by kernel_rfl))
 f335 := Tryz.func267.trans (congrArg some (by kernel_rfl))
 f336 := Tryz.func268.trans (congrArg some (by kernel_rfl))
 f344 := Tryz.func282.trans (congrArg some (by kernel_rfl))
 t0 := Tryz.underlying0
 a0 := Tryz.isAgg0
 z0 := Tryz.sizeOf0
 v0 := Tryz.zeroValue0
 t3 := Tryz.underlying3
 a3 := Tryz.isAgg3
 z3 := Tryz.sizeOf3
 v3 := Tryz.zeroValue3
 t4 := Tryz.underlying4
 a4 := Tryz.isAgg4
 z4 := Tryz.sizeOf4
 v4 := Tryz.zeroValue4
 t5 := Tryz.underlying5
 a5 := Tryz.isAgg5
 z5 := Tryz.sizeOf5
 v5 := Tryz.zeroValue5
 t9 := Tryz.underlying9
 a9 := Tryz.isAgg9
 z9 := Tryz.sizeOf9
 v9 := Tryz.zeroValue9
 t31 := Tryz.underlying23
 a31 := Tryz.isAgg23
 z31 := Tryz.sizeOf23
 v31 := Tryz.zeroValue23
 t46 := Tryz.underlying286
 a46 := Tryz.isAgg286
 z46 := Tryz.sizeOf286
 v46 := Tryz.zeroValue286
 t51 := Tryz.underlying343
 a51 := Tryz.isAgg343
 z51 := Tryz.sizeOf343
 v51 := Tryz.zeroValue343
 t53 := Tryz.underlying345
 a53 := Tryz.isAgg345
 z53 := Tryz.sizeOf345
 v53 := Tryz.zeroValue345
 t131 := Tryz.underlying240
 a131 := Tryz.isAgg240
 z131 := Tryz.sizeOf240
 v131 := Tryz.zeroValue240
 t182 := Tryz.underlying336
 a182 := Tryz.isAgg336
 z182 := Tryz.sizeOf336
 v182 := Tryz.zeroValue336
 t183 := Tryz.underlying337
 a183 := Tryz.isAgg337
 z183 := Tryz.sizeOf337
 v183 := Tryz.zeroValue337
 t218 := Tryz.underlying380
 a218 := Tryz.isAgg380
 z218 := Tryz.sizeOf380
 v218 := Tryz.zeroValue380
 t222 := Tryz.underlying384
 a222 := Tryz.isAgg384
 z222 := Tryz.sizeOf384
 v222 := Tryz.zeroValue384
 t228 := Tryz.underlying399
 a228 := Tryz.isAgg399
 z228 := Tryz.sizeOf399
 v228 := Tryz.zeroValue399
 t229 := Tryz.underlying149
 a229 := Tryz.isAgg149
 z229 := Tryz.sizeOf149
 v229 := Tryz.zeroValue149 }
open Go.RowKit Go.Sort in
theorem Tryz.slices_Sort_string (blk off cap : Nat) (ss : List (List UInt8)) (w : World) (hH : Holds encStr w blk off ss.toArray) (hblk : blk < w.heap.size) (hsz : ss.length < 4611686018427387904) :
  Calls Tryz.prog 115 #[.slice (some ⟨blk, off, none⟩) ss.length cap] w fun e w' => e = .returned (.tuple #[]) ∧ ∃ n os, w' = grow (putRow encStr (Sort.ahead w n) blk off (ss.mergeSort fun x y => decide (x ≤ y)).toArray) os := Any.slices_Sort_string Tryz.lays190 blk off cap ss w hH hblk hsz
end Go.Proofs
end
section
namespace Go.Abs
open Go
theorem sorted8 (l : List (List UInt8)) : (l.mergeSort fun x y => decide (x ≤ y)).Pairwise (· ≤ ·) := by
 have h := List.pairwise_mergeSort (le := fun x y : List UInt8 => decide (x ≤ y)) (fun a b c h1 h2 => decide_eq_true (List.le_trans (of_decide_eq_true h1) (of_decide_eq_true h2))) (fun a b => by rcases List.le_total a b with h | h <;> simp [h]) l
 exact h.imp fun h => of_decide_eq_true h
theorem compact_len {m : List (List UInt8)} (hs : m.Pairwise (· ≤ ·)) : (Lib.compact m).length < m.length ↔ ¬ m.Nodup := by
 have hge : ∀ (j : Nat) (h : j < m.length), m.toArray[j]! = m[j] := fun j h => by simp [h]
 have key : (∀ j, j < m.length → Lib.keeps m.toArray j = true) ↔ m.Nodup := by
  constructor
  ·intro hk
   refine List.pairwise_iff_getElem.2 fun i j hi hj hij => ?_
   intro e
   have h1 := hk j hj
   unfold Lib.keeps at h1
   have h1 := of_decide_eq_true h1
   rw [hge j hj, hge (j - 1) (by omega)] at h1
   rcases h1 with h1 | h1
   ·omega
   apply h1
   have a : m[j - 1] ≤ m[j] := List.pairwise_iff_getElem.1 hs (j - 1) j (by omega) hj (by omega)
   have b : m[i] ≤ m[j - 1] := by
    rcases Nat.lt_or_ge i (j - 1) with q | q
    ·exact List.pairwise_iff_getElem.1 hs i (j - 1) hi (by omega) q
    have : i = j - 1 := by omega
    subst this
    exact List.le_refl _
   rw [e] at b
   exact List.le_antisymm b a
  intro hn j hj
  unfold Lib.keeps
  apply decide_eq_true
  rcases Nat.eq_zero_or_pos j with q | q
  ·exact .inl q
  right
  rw [hge j hj, hge (j - 1) (by omega)]
  exact fun e => List.pairwise_iff_getElem.1 hn (j - 1) j (by omega) hj (by omega) e.symm
 have hlen : (Lib.compact m).length = ((List.range m.length).filter (Lib.keeps m.toArray)).length := by
  unfold Lib.compact Lib.compactUpTo
  rw [List.length_map]
 have hle : ((List.range m.length).filter (Lib.keeps m.toArray)).length ≤ m.length := by
  have := List.length_filter_le (Lib.keeps m.toArray) (List.range m.length)
  simpa using this
 have heq : ((List.range m.length).filter (Lib.keeps m.toArray)).length = m.length ↔ m.Nodup := by
  rw [← key]
  have := List.length_filter_eq_length_iff (p := Lib.keeps m.toArray) (l := List.range m.length)
  rw [List.length_range] at this
  rw [this]
  exact ⟨fun h j hj => h j (List.mem_range.2 hj), fun h j hj => h j (List.mem_range.1 hj)⟩
 rw [hlen, ← heq]
 omega
theorem twice_pure (l : List (List UInt8)) : decide ((Lib.compact (l.mergeSort fun x y => decide (x ≤ y))).length < l.length) = !decide l.Nodup := by
 have hp := List.mergeSort_perm l fun x y => decide (x ≤ y)
 have h := compact_len (sorted8 l)
 rw [hp.length_eq, hp.nodup_iff] at h
 by_cases q : l.Nodup
 ·rw [decide_eq_true q, decide_eq_false (fun e => h.1 e q)]
  rfl
 rw [decide_eq_false q, decide_eq_true (h.2 q)]
 rfl
end Go.Abs
end
section
namespace Go.Abs
open Go Go.Proofs
attribute [local irreducible] aCall AWp Sub Spec
/-- Is a name among names? -/
def hasB : List ByteArray → ByteArray → Bool
 | [], _ => false
 | y :: r, v => match y.toList == v.toList with
  | true => true
  | false => hasB r v
def idxI (v : ByteArray) : List ByteArray → Nat → Int
 | [], _ => -1
 | y :: r, i => match v.toList == y.toList with
  | true => i
  | false => idxI v r (i + 1)
/-- Which procedure has this name (-1: none)? -/
def procJ (v : ByteArray) : List Pc → Nat → Int
 | [], _ => -1
 | f :: r, i => match f.name.toList == v.toList with
  | true => i
  | false => procJ v r (i + 1)
theorem strs_at {l d e : List ByteArray} {x : ByteArray} (h : l = d ++ x :: e) : (strs l)[((d.length : Nat) : Int).toNat]? = some [str x] := by
 subst h; rw [Int.toNat_natCast]; simp [strs]
theorem beq_swap (a b : List UInt8) : (a == b) = (b == a) := by
 by_cases h : a = b
 ·subst h; rfl
 rw [beq_eq_false_iff_ne.2 h, beq_eq_false_iff_ne.2 (Ne.symm h)]
theorem idx_has (v : ByteArray) : ∀ (l : List ByteArray) (i : Nat), decide (idxI v l i ≥ 0) = hasB l v
 | [], _ => rfl
 | y :: r, i => by
  simp only [idxI, hasB, beq_swap v.toList y.toList]
  cases y.toList == v.toList with
  | true => exact decide_eq_true (show ((i : Int) ≥ 0) by omega)
  | false => exact idx_has v r (i + 1)
section
variable (G : Glob)
theorem index_spec (l : List ByteArray) (v : ByteArray) (hn : l.length ≤ 1073741824) : Spec Tryz.prog G 222 [.d (.sl 1 (strs l)), .d (str v)] [] (.ret (.d (num (idxI v l 0)))) [] := by
 obtain ⟨r, hG⟩ : ∃ r, idxI v l 0 = r := ⟨_, rfl⟩; rw [hG]; refine spec_of_awp2 TT_ok (N := 19) Tryz.func222 rfl (by rfl) (Nat.le_refl _) rfl ?_; refine rgs fun E K J O => ?_; refine O _ (aN [0, 1] rfl rfl ?_); clear O J K E; refine awp_seq ?_; refine rgs fun E K J O => ?_; refine O _ (aN [0, 1, 7, 8] rfl rfl ?_); clear O J K E; refine awp_block ?_; refine awp_loop (fun k Y => ∃ (d1 e1 : List ByteArray) , k = e1.length ∧ l = d1 ++ e1 ∧ idxI v e1 d1.length = r ∧ Y = ⟨[(0, .d (.sl 1 (strs l))), (1, .d (str v)), (7, .d (num (strs l).length)), (8, .d (num d1.length))], []⟩) (l.length) (⟨[], l, rfl, rfl, hG, rfl⟩) ?_; clear hG; rintro k Y ⟨d1, e1, rfl, hl1, hG, rfl⟩
 have hll1 : (strs l).length = d1.length + e1.length := by rw [strs_length, hl1, List.length_append]
 have hdl1 : d1.length + e1.length ≤ 1073741824 := by rw [hl1, List.length_append] at hn; exact hn
 refine rgs fun E K J O => ?_; refine O _ (aN [0, 1, 7, 8, 9] rfl rfl ?_); clear O J K E; refine awp_seq ?_; refine awp_cond2 rfl (onB_intro (fun h1 => ?_) (fun h1 => ?_))
 ·have h1' := of_decide_eq_true h1
  rw [hll1] at h1'
  cases e1 with
  | nil => simp only [List.length_nil] at h1'; omega
  | cons x e1b =>
  subst hl1; simp only [List.length_cons] at hdl1; simp only [idxI] at hG; refine awp_skip ?_; refine awp_seq ?_; refine awp_block ?_; refine rgs fun E K J O => ?_; refine O _ (aN [0, 1, 5, 7, 8] rfl rfl ?_); clear O J K E; refine rgs fun E K J O => ?_; refine And.intro (by omega) (Exists.intro _ (And.intro (strs_at rfl) ?_)); refine O _ (aN [0, 1, 5, 7, 8, 16] rfl rfl ?_); clear O J K E; refine awp_cond2 rfl (onB_intro (fun h2 => ?_) (fun h2 => ?_))
  ·simp only [h2] at hG
   refine rgs fun E K J O => ?_; refine O _ (aN [4] rfl rfl ?_); clear O J K E; refine awp_ret ?_; subst hG; exact ⟨_, [], _, [.d (num _)], rfl, rfl, rfl, rfl, rfl, PWs.refl _, rfl⟩
  simp only [h2] at hG; refine awp_skip ?_; refine rgn fun E K J O => ?_; refine O _ ?_; clear O J K E; exact ⟨_, Nat.lt_succ_self _, _, sub_norm (slots := [0, 1, 7, 8]) rfl rfl, d1 ++ [x], e1b, rfl, by simp, (by rw [List.length_append]; exact hG), by rw [List.length_append, wrapId (by omega) (by omega)]; rfl⟩
 have h1' := of_decide_eq_false h1; rw [hll1] at h1'; obtain rfl : e1 = [] := List.eq_nil_of_length_eq_zero (by omega); simp only [idxI] at hG; refine awp_exit ?_; refine awp_norm [] rfl rfl ?_; refine rgs fun E K J O => ?_; refine O _ (aN [4] rfl rfl ?_); clear O J K E; refine awp_ret ?_; subst hG; exact ⟨_, [], _, [.d (num _)], rfl, rfl, rfl, rfl, rfl, PWs.refl _, rfl⟩
theorem contains_spec (l : List ByteArray) (v : ByteArray) (hn : l.length ≤ 1073741824) : Spec Tryz.prog G 165 [.d (.sl 1 (strs l)), .d (str v)] [] (.ret (.d (.s (.bool (hasB l v))))) [] := by
 rw [← idx_has v l 0]; refine spec_of_awp2 TT_ok (N := 9) Tryz.func165 rfl (by rfl) (Nat.le_refl _) rfl ?_; refine rgs fun E K J O => ?_; refine O _ (aN [0, 1] rfl rfl ?_); clear O J K E; refine rgs fun E K J O => ?_; show aCall _ _ _ _ _ _ _; refine aR [] rfl rfl rfl (index_spec G l v hn) rfl rfl rfl rfl ?_; refine O _ (aN [4] rfl rfl ?_); clear O J K E; refine awp_ret ?_; exact ⟨_, [], _, [.d (.s (.bool _))], rfl, rfl, rfl, rfl, rfl, PWs.refl _, rfl⟩
theorem isProc_spec (f : Pc) (v : ByteArray) : Spec Tryz.prog G 223 [.d (.agg f.cs), .box 0 0] [.box 9 [.d (str v)]] (.ret (.d (.s (.bool (f.name.toList == v.toList))))) [.box 9 [.d (str v)]] := by
 obtain ⟨nm, ps, bd, ⟨o1, n1, m1, l1⟩⟩ := f; refine spec_of_awp2 TT_ok (N := 8) Tryz.func223 rfl (by rfl) (Nat.le_refl _) rfl ?_; refine rgs fun E K J O => ?_; refine O _ (aN [1, 2] rfl rfl ?_); clear O J K E; refine rgs fun E K J O => ?_; refine O _ (aN [3] rfl rfl ?_); clear O J K E; refine awp_ret ?_; exact ⟨_, [0], _, [.d (.s (.bool _))], rfl, rfl, rfl, rfl, rfl, PWs.refl _, rfl⟩
theorem indexP_spec (l : List Pc) (v : ByteArray) (hn : l.length ≤ 1073741824) : Spec Tryz.prog G 171 [.d (.sl 7 (pcs l)), .fn 223 [.box 0 0]] [.box 9 [.d (str v)]] (.ret (.d (num (procJ v l 0)))) [.box 9 [.d (str v)]] := by
 obtain ⟨r, hG⟩ : ∃ r, procJ v l 0 = r := ⟨_, rfl⟩; rw [hG]; refine spec_of_awp2 TT_ok (N := 19) Tryz.func171 rfl (by rfl) (Nat.le_refl _) rfl ?_; refine rgs fun E K J O => ?_; refine O _ (aN [0, 1] rfl rfl ?_); clear O J K E; refine awp_seq ?_; refine rgs fun E K J O => ?_; refine O _ (aN [0, 1, 7, 8] rfl rfl ?_); clear O J K E; refine awp_block ?_; refine awp_loop (fun k Y => ∃ (d1 e1 : List Pc) , k = e1.length ∧ l = d1 ++ e1 ∧ procJ v e1 d1.length = r ∧ Y = ⟨[(0, .d (.sl 7 (pcs l))), (1, .fn 223 [.box 0 0]), (7, .d (num (pcs l).length)), (8, .d (num d1.length))], [.box 9 [.d (str v)]]⟩) (l.length) (⟨[], l, rfl, rfl, hG, rfl⟩) ?_; clear hG; rintro k Y ⟨d1, e1, rfl, hl1, hG, rfl⟩
 have hll1 : (pcs l).length = d1.length + e1.length := by rw [pcs_length, hl1, List.length_append]
 have hdl1 : d1.length + e1.length ≤ 1073741824 := by rw [hl1, List.length_append] at hn; exact hn
 refine rgs fun E K J O => ?_; refine O _ (aN [0, 1, 7, 8, 9] rfl rfl ?_); clear O J K E; refine awp_seq ?_; refine awp_cond2 rfl (onB_intro (fun h1 => ?_) (fun h1 => ?_))
 ·have h1' := of_decide_eq_true h1
  rw [hll1] at h1'
  cases e1 with
  | nil => simp only [List.length_nil] at h1'; omega
  | cons x e1b =>
  obtain ⟨nm, ps, bd, ⟨o1, n1, m1, l1⟩⟩ := x; subst hl1; simp only [List.length_cons] at hdl1; simp only [procJ] at hG; refine awp_skip ?_; refine awp_seq ?_; refine awp_block ?_; refine rgs fun E K J O => ?_; refine O _ (aN [0, 1, 5, 7, 8] rfl rfl ?_); clear O J K E; refine rgs fun E K J O => ?_; refine And.intro (by omega) (Exists.intro _ (And.intro (pcs_at rfl) ?_))
  show aCall _ _ _ _ _ _ _
  refine aR [0] rfl rfl rfl (isProc_spec G ⟨nm, ps, bd, .mk o1 n1 m1 l1⟩ v) rfl rfl rfl rfl ?_; refine O _ (aN [0, 1, 5, 7, 8, 16] rfl rfl ?_); clear O J K E; refine awp_cond2 rfl (onB_intro (fun h2 => ?_) (fun h2 => ?_))
  ·simp only [h2] at hG
   refine rgs fun E K J O => ?_; refine O _ (aN [4] rfl rfl ?_); clear O J K E; refine awp_ret ?_; subst hG; exact ⟨_, [0], _, [.d (num _)], rfl, rfl, rfl, rfl, rfl, PWs.refl _, rfl⟩
  simp only [h2] at hG; refine awp_skip ?_; refine rgn fun E K J O => ?_; refine O _ ?_; clear O J K E; exact ⟨_, Nat.lt_succ_self _, _, sub_norm (slots := [0, 1, 7, 8]) rfl rfl, d1 ++ [⟨nm, ps, bd, .mk o1 n1 m1 l1⟩], e1b, rfl, by simp, (by rw [List.length_append]; exact hG), by rw [List.length_append, wrapId (by omega) (by omega)]; rfl⟩
 have h1' := of_decide_eq_false h1; rw [hll1] at h1'; obtain rfl : e1 = [] := List.eq_nil_of_length_eq_zero (by omega); simp only [procJ] at hG; refine awp_exit ?_; refine awp_norm [] rfl rfl ?_; refine rgs fun E K J O => ?_; refine O _ (aN [4] rfl rfl ?_); clear O J K E; refine awp_ret ?_; subst hG; exact ⟨_, [0], _, [.d (num _)], rfl, rfl, rfl, rfl, rfl, PWs.refl _, rfl⟩
/-- A place of names, ay data. -/
def PlC (vs ay : List ByteArray) (ps : List Pc) : List Data := [.sl 1 (strs vs), .sl 1 (strs ay), .sl 7 (pcs ps)]
theorem proc_spec (vs ay : List ByteArray) (ps : List Pc) (v : ByteArray) (hn : ps.length ≤ 1073741824) : Spec Tryz.prog G 166 [.d (.agg (PlC vs ay ps)), .d (str v)] [] (.ret (.d (num (procJ v ps 0)))) [] := by
 refine spec_of_awp2 TT_ok (N := 9) Tryz.func166 rfl (by rfl) (Nat.le_refl _) rfl ?_; refine rgs fun E K J O => ?_; refine O _ (aN [2, 3] rfl rfl ?_); clear O J K E; refine rgs fun E K J O => ?_; show aCall _ _ _ _ _ _ _; refine aR [1] rfl rfl rfl (indexP_spec G ps v hn) rfl rfl rfl rfl ?_; refine O _ (aN [4] rfl rfl ?_); clear O J K E; refine awp_ret ?_; exact ⟨_, [], _, [.d (num _)], rfl, rfl, rfl, rfl, rfl, PWs.refl _, rfl⟩
end
end Go.Abs
end
section
namespace Go.Abs
open Go Go.Proofs
attribute [local irreducible] aCall AWp Sub Spec
/-- The first of some terms at which a test holds (-1: none). -/
def idxG (g : Ex → Bool) : List Ex → Nat → Int
 | [], _ => -1
 | e :: r, i => match g e with
  | true => i
  | false => idxG g r (i + 1)
theorem idx_any (g : Ex → Bool) : ∀ (l : List Ex) (i : Nat), decide (idxG g l i ≥ 0) = l.any g
 | [], _ => rfl
 | e :: r, i => by
  have key : ∀ b : Bool, decide ((match b with
    | true => (i : Int)
    | false => idxG g r (i + 1)) ≥ 0) = (b || r.any g) := fun b => by
   cases b with
   | true => exact decide_eq_true (show ((i : Int) ≥ 0) by omega)
   | false => simpa using idx_any g r (i + 1)
  exact key (g e)
mutual
/-- Are all names of a term known? -/
def tmN (vs ay : List ByteArray) : Ex → Bool
 | .mk op _ nm l => (match op.toList == (⟨#[118, 97, 114]⟩ : ByteArray).toList with
  | true => hasB vs nm
  | false => match op.toList == (⟨#[97, 116]⟩ : ByteArray).toList with
   | true => hasB ay nm
   | false => true) && tmsN vs ay l
def tmsN (vs ay : List ByteArray) : List Ex → Bool
 | [] => true
 | e :: r => tmN vs ay e && tmsN vs ay r
end
theorem tms_all (vs ay : List ByteArray) : ∀ l : List Ex, l.any (fun e => !tmN vs ay e) = !tmsN vs ay l
 | [] => rfl
 | e :: r => by
  simp only [List.any_cons, tmsN, tms_all vs ay r]
  cases tmN vs ay e <;> rfl
def PlR (vs ay : List ByteArray) (ps : List Pc) : List Row := [.box 196 [.d (.sl 1 (strs vs)), .d (.sl 1 (strs ay)), .d (.sl 7 (pcs ps))]]
section
variable (G : Glob)
theorem indexE_spec (c : FuncId) (vs ay : List ByteArray) (ps : List Pc) (g : Ex → Bool) (l : List Ex) (hc : ∀ x, x ∈ l → Spec Tryz.prog G c [.d (.agg x.cs), .box 0 0] (PlR vs ay ps) (.ret (.d (.s (.bool (g x))))) (PlR vs ay ps)) (hn : l.length ≤ 1073741824) : Spec Tryz.prog G 224 [.d (.sl 4 (exs l)), .fn c [.box 0 0]] (PlR vs ay ps) (.ret (.d (num (idxG g l 0)))) (PlR vs ay ps) := by
 obtain ⟨r, hG⟩ : ∃ r, idxG g l 0 = r := ⟨_, rfl⟩; rw [hG]; refine spec_of_awp2 TT_ok (N := 19) Tryz.func224 rfl (by rfl) (Nat.le_refl _) rfl ?_; refine rgs fun E K J O => ?_; refine O _ (aN [0, 1] rfl rfl ?_); clear O J K E; refine awp_seq ?_; refine rgs fun E K J O => ?_; refine O _ (aN [0, 1, 7, 8] rfl rfl ?_); clear O J K E; refine awp_block ?_; refine awp_loop (fun k Y => ∃ (d1 e1 : List Ex) , k = e1.length ∧ l = d1 ++ e1 ∧ idxG g e1 d1.length = r ∧ Y = ⟨[(0, .d (.sl 4 (exs l))), (1, .fn c [.box 0 0]), (7, .d (num (exs l).length)), (8, .d (num d1.length))], (PlR vs ay ps)⟩) (l.length) (⟨[], l, rfl, rfl, hG, rfl⟩) ?_; clear hG; rintro k Y ⟨d1, e1, rfl, hl1, hG, rfl⟩
 have hll1 : (exs l).length = d1.length + e1.length := by rw [ex_len, hl1, List.length_append]
 have hdl1 : d1.length + e1.length ≤ 1073741824 := by rw [hl1, List.length_append] at hn; exact hn
 refine rgs fun E K J O => ?_; refine O _ (aN [0, 1, 7, 8, 9] rfl rfl ?_); clear O J K E; refine awp_seq ?_; refine awp_cond2 rfl (onB_intro (fun h1 => ?_) (fun h1 => ?_))
 ·have h1' := of_decide_eq_true h1
  rw [hll1] at h1'
  cases e1 with
  | nil => simp only [List.length_nil] at h1'; omega
  | cons x e1b =>
  obtain ⟨p1, n1, m1, l1⟩ := x; subst hl1; simp only [List.length_cons] at hdl1; simp only [idxG] at hG; refine awp_skip ?_; refine awp_seq ?_; refine awp_block ?_; refine rgs fun E K J O => ?_; refine O _ (aN [0, 1, 5, 7, 8] rfl rfl ?_); clear O J K E; refine rgs fun E K J O => ?_; refine And.intro (by omega) (Exists.intro _ (And.intro (exs_at rfl) ?_))
  show aCall _ _ _ _ _ _ _
  refine aR [0] rfl rfl rfl (hc (.mk p1 n1 m1 l1) (by simp)) rfl rfl rfl rfl ?_; refine O _ (aN [0, 1, 5, 7, 8, 16] rfl rfl ?_); clear O J K E; refine awp_cond2 rfl (onB_intro (fun h2 => ?_) (fun h2 => ?_))
  ·simp only [h2] at hG
   refine rgs fun E K J O => ?_; refine O _ (aN [4] rfl rfl ?_); clear O J K E; refine awp_ret ?_; subst hG; exact ⟨_, [0], _, [.d (num _)], rfl, rfl, rfl, rfl, rfl, PWs.refl _, rfl⟩
  simp only [h2] at hG; refine awp_skip ?_; refine rgn fun E K J O => ?_; refine O _ ?_; clear O J K E; exact ⟨_, Nat.lt_succ_self _, _, sub_norm (slots := [0, 1, 7, 8]) rfl rfl, d1 ++ [.mk p1 n1 m1 l1], e1b, rfl, by simp, (by rw [List.length_append]; exact hG), by rw [List.length_append, wrapId (by omega) (by omega)]; rfl⟩
 have h1' := of_decide_eq_false h1; rw [hll1] at h1'; obtain rfl : e1 = [] := List.eq_nil_of_length_eq_zero (by omega); simp only [idxG] at hG; refine awp_exit ?_; refine awp_norm [] rfl rfl ?_; refine rgs fun E K J O => ?_; refine O _ (aN [4] rfl rfl ?_); clear O J K E; refine awp_ret ?_; subst hG; exact ⟨_, [0], _, [.d (num _)], rfl, rfl, rfl, rfl, rfl, PWs.refl _, rfl⟩
theorem containsE_spec (c : FuncId) (vs ay : List ByteArray) (ps : List Pc) (g : Ex → Bool) (l : List Ex) (hc : ∀ x, x ∈ l → Spec Tryz.prog G c [.d (.agg x.cs), .box 0 0] (PlR vs ay ps) (.ret (.d (.s (.bool (g x))))) (PlR vs ay ps)) (hn : l.length ≤ 1073741824) : Spec Tryz.prog G 167 [.d (.sl 4 (exs l)), .fn c [.box 0 0]] (PlR vs ay ps) (.ret (.d (.s (.bool (l.any g))))) (PlR vs ay ps) := by
 rw [← idx_any g l 0]; refine spec_of_awp2 TT_ok (N := 9) Tryz.func167 rfl (by rfl) (Nat.le_refl _) rfl ?_; refine rgs fun E K J O => ?_; refine O _ (aN [0, 1] rfl rfl ?_); clear O J K E; refine rgs fun E K J O => ?_; show aCall _ _ _ _ _ _ _; refine aR [0] rfl rfl rfl (indexE_spec G c vs ay ps g l hc hn) rfl rfl rfl rfl ?_; refine O _ (aN [4] rfl rfl ?_); clear O J K E; refine awp_ret ?_; exact ⟨_, [0], _, [.d (.s (.bool _))], rfl, rfl, rfl, rfl, rfl, PWs.refl _, rfl⟩
def TmOk (vs ay : List ByteArray) (ps : List Pc) (m : Nat) : Prop := ∀ e : Ex, fuE e ≤ m → wtE e ≤ 1000000000 → Spec Tryz.prog G 100 [.d (.agg (PlC vs ay ps)), .d (.agg e.cs)] [] (.ret (.d (.s (.bool (tmN vs ay e))))) []
theorem notTerm_spec (vs ay : List ByteArray) (ps : List Pc) (e : Ex) (b : Bool) (h : Spec Tryz.prog G 100 [.d (.agg (PlC vs ay ps)), .d (.agg e.cs)] [] (.ret (.d (.s (.bool b)))) []) : Spec Tryz.prog G 169 [.d (.agg e.cs), .box 0 0] (PlR vs ay ps) (.ret (.d (.s (.bool (!b))))) (PlR vs ay ps) := by
 obtain ⟨op, n, nm, l⟩ := e; refine spec_of_awp2 TT_ok (N := 8) Tryz.func169 rfl (by rfl) (Nat.le_refl _) rfl ?_; refine rgs fun E K J O => ?_; refine O _ (aN [1, 2] rfl rfl ?_); clear O J K E; refine rgs fun E K J O => ?_; show aCall _ _ _ _ _ _ _; refine aR [] rfl rfl rfl h rfl rfl rfl rfl ?_; refine O _ (aN [3] rfl rfl ?_); clear O J K E; refine awp_ret ?_; exact ⟨_, [0], _, [.d (.s (.bool _))], rfl, rfl, rfl, rfl, rfl, PWs.refl _, rfl⟩
theorem notTerm2_spec (vs ay : List ByteArray) (ps : List Pc) (e : Ex) (b : Bool) (h : Spec Tryz.prog G 100 [.d (.agg (PlC vs ay ps)), .d (.agg e.cs)] [] (.ret (.d (.s (.bool b)))) []) : Spec Tryz.prog G 168 [.d (.agg e.cs), .box 0 0] (PlR vs ay ps) (.ret (.d (.s (.bool (!b))))) (PlR vs ay ps) := by
 obtain ⟨op, n, nm, l⟩ := e; refine spec_of_awp2 TT_ok (N := 8) Tryz.func168 rfl (by rfl) (Nat.le_refl _) rfl ?_; refine rgs fun E K J O => ?_; refine O _ (aN [1, 2] rfl rfl ?_); clear O J K E; refine rgs fun E K J O => ?_; show aCall _ _ _ _ _ _ _; refine aR [] rfl rfl rfl h rfl rfl rfl rfl ?_; refine O _ (aN [3] rfl rfl ?_); clear O J K E; refine awp_ret ?_; exact ⟨_, [0], _, [.d (.s (.bool _))], rfl, rfl, rfl, rfl, rfl, PWs.refl _, rfl⟩
theorem fuL_mem : ∀ {l : List Ex} {x : Ex}, x ∈ l → fuE x + 1 ≤ fuL l
 | e :: r, x, h => by
  simp only [fuL]
  rcases List.mem_cons.1 h with rfl | h
  ·omega
  have := fuL_mem h; omega
theorem wtL_mem : ∀ {l : List Ex} {x : Ex}, x ∈ l → wtE x ≤ wtL l
 | e :: r, x, h => by
  simp only [wtL]
  rcases List.mem_cons.1 h with rfl | h
  ·omega
  have := wtL_mem h; omega
theorem pterm_step (vs ay : List ByteArray) (ps : List Pc) (hv : vs.length ≤ 1073741824) (ha : ay.length ≤ 1073741824) (m : Nat) (ih : TmOk G vs ay ps m) : TmOk G vs ay ps (m + 1) := by
 intro e hf hw; obtain ⟨op, n, nm, l⟩ := e; simp only [fuE] at hf; simp only [wtE] at hw; have hlen := wtL_len l; have hs := containsE_spec G 169 vs ay ps (fun e => !tmN vs ay e) l (fun x hx => notTerm_spec G vs ay ps x _ (ih x (by have := fuL_mem hx; omega) (by have := wtL_mem hx; omega))) (by omega); rw [tms_all] at hs; obtain ⟨b, hG⟩ : ∃ b, tmN vs ay (.mk op n nm l) = b := ⟨_, rfl⟩; rw [hG]; simp only [tmN] at hG; refine spec_of_awp2 TT_ok (N := 30) Tryz.func100 rfl (by rfl) (Nat.le_refl _) rfl ?_; refine rgs fun E K J O => ?_; refine O _ (aN [2, 3] rfl rfl ?_); clear O J K E; refine rgs fun E K J O => ?_; refine O _ (aN [2, 3, 5] rfl rfl ?_); clear O J K E; refine awp_seq ?_; refine rgs fun E K J O => ?_; refine O _ (aN [2, 3, 5, 7] rfl rfl ?_); clear O J K E; refine awp_block ?_; refine rgs fun E K J O => ?_; refine O _ (aN [2, 3, 5, 7, 8] rfl rfl ?_); clear O J K E; refine awp_cond2 rfl (onB_intro (fun h1 => ?_) (fun h1 => ?_))
 ·simp only [h1] at hG
  refine rgn fun E K J O => ?_; show aCall _ _ _ _ _ _ _
  first
   | refine aR [] rfl rfl rfl (contains_spec G vs nm hv) rfl rfl rfl rfl ?_
   | refine aR [] rfl rfl rfl (contains_spec G ay nm ha) rfl rfl rfl rfl ?_
  refine O _ (aN [2, 3, 5] rfl rfl ?_); clear O J K E; refine rgs fun E K J O => ?_; refine onB_intro (fun h2 => ?_) (fun h2 => ?_)
  ·simp only [h2, bn] at hG
   show aCall _ _ _ _ _ _ _
   refine aR [0] rfl rfl rfl hs rfl rfl rfl rfl ?_; refine O _ (aN [4] rfl rfl ?_); clear O J K E; refine awp_ret ?_
   (try simp only [bn] at hG)
   subst hG; exact ⟨_, [], _, [.d (.s (.bool _))], rfl, rfl, rfl, rfl, rfl, by (first | exact PWs.refl _ | (simp only [bn]; exact PWs.refl _)), rfl⟩
  simp only [h2, bn] at hG; refine O _ (aN [4] rfl rfl ?_); clear O J K E; refine awp_ret ?_
  (try simp only [bn] at hG)
  subst hG; exact ⟨_, [], _, [.d (.s (.bool _))], rfl, rfl, rfl, rfl, rfl, by (first | exact PWs.refl _ | (simp only [bn]; exact PWs.refl _)), rfl⟩
 simp only [h1] at hG; refine rgs fun E K J O => ?_; refine O _ (aN [2, 3, 5, 15] rfl rfl ?_); clear O J K E; refine awp_cond2 rfl (onB_intro (fun h2 => ?_) (fun h2 => ?_))
 ·simp only [h2] at hG
  refine rgn fun E K J O => ?_; show aCall _ _ _ _ _ _ _
  first
   | refine aR [] rfl rfl rfl (contains_spec G vs nm hv) rfl rfl rfl rfl ?_
   | refine aR [] rfl rfl rfl (contains_spec G ay nm ha) rfl rfl rfl rfl ?_
  refine O _ (aN [2, 3, 5] rfl rfl ?_); clear O J K E; refine rgs fun E K J O => ?_; refine onB_intro (fun h3 => ?_) (fun h3 => ?_)
  ·simp only [h3, bn] at hG
   show aCall _ _ _ _ _ _ _
   refine aR [0] rfl rfl rfl hs rfl rfl rfl rfl ?_; refine O _ (aN [4] rfl rfl ?_); clear O J K E; refine awp_ret ?_
   (try simp only [bn] at hG)
   subst hG; exact ⟨_, [], _, [.d (.s (.bool _))], rfl, rfl, rfl, rfl, rfl, by (first | exact PWs.refl _ | (simp only [bn]; exact PWs.refl _)), rfl⟩
  simp only [h3, bn] at hG; refine O _ (aN [4] rfl rfl ?_); clear O J K E; refine awp_ret ?_
  (try simp only [bn] at hG)
  subst hG; exact ⟨_, [], _, [.d (.s (.bool _))], rfl, rfl, rfl, rfl, rfl, by (first | exact PWs.refl _ | (simp only [bn]; exact PWs.refl _)), rfl⟩
 simp only [h2, bn] at hG; refine awp_skip ?_; refine rgs fun E K J O => ?_; show aCall _ _ _ _ _ _ _; refine aR [0] rfl rfl rfl hs rfl rfl rfl rfl ?_; refine O _ (aN [4] rfl rfl ?_); clear O J K E; refine awp_ret ?_
 (try simp only [bn] at hG)
 subst hG; exact ⟨_, [], _, [.d (.s (.bool _))], rfl, rfl, rfl, rfl, rfl, by (first | exact PWs.refl _ | (simp only [bn]; exact PWs.refl _)), rfl⟩
theorem pterm_all (vs ay : List ByteArray) (ps : List Pc) (hv : vs.length ≤ 1073741824) (ha : ay.length ≤ 1073741824) : ∀ m, TmOk G vs ay ps m
 | 0 => fun e h => by obtain ⟨_, _, _, _⟩ := e; simp only [fuE] at h; omega
 | m + 1 => pterm_step G vs ay ps hv ha m (pterm_all vs ay ps hv ha m)
theorem place_term (vs ay : List ByteArray) (ps : List Pc) (hv : vs.length ≤ 1073741824) (ha : ay.length ≤ 1073741824) (e : Ex) (hw : wtE e ≤ 1000000000) : Spec Tryz.prog G 100 [.d (.agg (PlC vs ay ps)), .d (.agg e.cs)] [] (.ret (.d (.s (.bool (tmN vs ay e))))) [] := pterm_all G vs ay ps hv ha (fuE e) e (Nat.le_refl _) hw
theorem place_terms (vs ay : List ByteArray) (ps : List Pc) (hv : vs.length ≤ 1073741824) (ha : ay.length ≤ 1073741824) (l : List Ex) (hw : wtL l ≤ 1000000000) : Spec Tryz.prog G 167 [.d (.sl 4 (exs l)), .fn 168 [.box 0 0]] (PlR vs ay ps) (.ret (.d (.s (.bool (!tmsN vs ay l))))) (PlR vs ay ps) := by
 have hlen := wtL_len l; have hs := containsE_spec G 168 vs ay ps (fun e => !tmN vs ay e) l (fun x hx => notTerm2_spec G vs ay ps x _ (place_term G vs ay ps hv ha x (by have := wtL_mem hx; omega))) (by omega)
 rwa [tms_all] at hs
end
end Go.Abs
end
section
namespace Go.Abs
open Go Go.Proofs
attribute [local irreducible] aCall AWp Sub Spec
def tsE : List Ts → List Ex
 | [] => []
 | t :: r => t.a :: t.b :: tsE r
def condE : List (List Ts) → List Ex
 | [] => []
 | r :: c => tsE r ++ condE c
/-- The terms of a statement, its own. -/
def Sm.terms : Sm → List Ex
 | .mk _ _ _ args cond _ _ => args ++ condE cond
theorem tsE_app : ∀ a b : List Ts, tsE (a ++ b) = tsE a ++ tsE b
 | [], _ => rfl
 | t :: a, b => by simp only [List.cons_append, tsE, tsE_app a b]
theorem condE_app : ∀ a b : List (List Ts), condE (a ++ b) = condE a ++ condE b
 | [], _ => rfl
 | t :: a, b => by simp only [List.cons_append, condE, condE_app a b, List.append_assoc]
theorem condE_snoc (d : List (List Ts)) (x : List Ts) : condE (d ++ [x]) = condE d ++ tsE x := by rw [condE_app]; simp [condE]
theorem exs_app : ∀ a b : List Ex, exs (a ++ b) = exs a ++ exs b
 | [], _ => rfl
 | t :: a, b => by simp only [List.cons_append, exs, exs_app a b]
theorem tsx (A : List Ex) (d : List Ts) (t : Ts) : exs (A ++ tsE (d ++ [t])) = exs (A ++ tsE d) ++ [t.a.cs, t.b.cs] := by rw [tsE_app, ← List.append_assoc, exs_app _ (tsE [t])]; rfl
theorem tsE_len : ∀ r : List Ts, (tsE r).length ≤ wtR r
 | [] => Nat.zero_le _
 | t :: r => by have := tsE_len r; simp only [tsE, wtR, wtT, List.length_cons]; omega
theorem condE_len : ∀ c : List (List Ts), (condE c).length ≤ wtC c
 | [] => Nat.zero_le _
 | r :: c => by have := condE_len c; have := tsE_len r; simp only [condE, wtC, List.length_append]; omega
theorem nil_exs {l : List Ex} (h : nilOf (.d (.sl 4 (exs l))) true) : l = [] := by
 have := eq_of_beq (nil_len h); rw [ex_len] at this; exact List.eq_nil_of_length_eq_zero (by omega)
section
variable (G : Glob)
theorem cloneE_spec (l : List Ex) (hn : l.length ≤ 1073741824) : Spec Tryz.prog G 174 [.d (.sl 4 (exs l))] [] (.ret (.acc 0)) [.acc 157 4 (exs l)] := by
 refine spec_of_awp2 TT_ok (N := 8) Tryz.func174 rfl (by rfl) (Nat.zero_le _) rfl ?_; refine rgs fun E K J O => ?_; refine O _ (aN [0] rfl rfl ?_); clear O J K E; refine awp_seq ?_; refine rgs fun E K J O => ?_; refine pNilS_sl (fun hb => ?_) ?_
 ·obtain rfl := nil_exs hb
  refine O _ (aN [0, 4] rfl rfl ?_); clear O J K E; refine awp_cond rfl ?_; refine rgs fun E K J O => ?_; refine O _ (aN [2] rfl rfl ?_); clear O J K E; refine awp_acc 2 157 4 rfl rfl rfl ?_; refine awp_norm [2] rfl rfl ?_; refine awp_ret ?_; exact ⟨_, [0], _, [.acc 0], rfl, rfl, rfl, rfl, rfl, PWs.refl _, rfl⟩
 refine O _ (aN [0, 4] rfl rfl ?_); clear O J K E; refine awp_cond rfl ?_; refine awp_skip ?_; refine rgs fun E K J O => ?_; refine Or.inr (Or.inr ?_); refine And.intro (And.intro ((by simp only [ex_len, List.length_nil] at *; omega)) ((by simp only [ex_len, List.length_nil, maxLen] at *; omega))) ?_; refine O _ (aN [2] rfl rfl ?_); clear O J K E; refine awp_ret ?_; exact ⟨_, [0], _, [.acc 0], rfl, rfl, rfl, rfl, rfl, PWs.refl _, rfl⟩
theorem terms_spec (kind name proc : ByteArray) (args : List Ex) (cond : List (List Ts)) (body els : List Sm) (hsz : args.length + (condE cond).length ≤ 1073741000) (hc : wtC cond ≤ 1000000000) : Spec Tryz.prog G 112 [.d (.agg (Sm.mk kind name proc args cond body els).cs)] [] (.ret (.d (.sl 4 (exs (args ++ condE cond))))) [] := by
 have hcl := wtC_len cond
 have hb : cond.length ≤ 1073741824 := by omega
 refine spec_of_awp2 TT_ok (N := 34) Tryz.func112 rfl (by rfl) (Nat.le_refl _) rfl ?_; refine rgs fun E K J O => ?_; refine O _ (aN [1] rfl rfl ?_); clear O J K E; refine rgs fun E K J O => ?_; show aCall _ _ _ _ _ _ _; refine aR [] rfl rfl rfl (cloneE_spec G args (by omega)) rfl rfl rfl rfl ?_; refine O _ (aN [1, 3] rfl rfl ?_); clear O J K E; refine awp_seq ?_; refine rgs fun E K J O => ?_; refine O _ (aN [3, 12, 13, 14] rfl rfl ?_); clear O J K E; refine awp_block ?_; refine awp_loop (fun k Y => ∃ (d1 e1 : List (List Ts)), k = e1.length ∧ cond = d1 ++ e1 ∧ Y = ⟨[(3, .acc 1), (12, .d (.sl 1 (cnd cond))), (13, .d (num (cnd cond).length)), (14, .d (num d1.length))], [.box 217 [.d (str kind), .d (str name), .d (str proc), .d (.sl 4 (exs args)), .d (.sl 1 (cnd cond)), .d (.sl 7 (sms body)), .d (.sl 7 (sms els))], .acc 157 4 (exs (args ++ condE d1))]⟩) (cond.length) (⟨[], cond, rfl, rfl, by rw [show condE ([] : List (List Ts)) = [] from rfl, List.append_nil]; rfl⟩) ?_; rintro k Y ⟨d1, e1, rfl, hl1, rfl⟩
 have hll1 : (cnd cond).length = d1.length + e1.length := by rw [cnd_len3, hl1, List.length_append]
 have hdl1 : d1.length + e1.length ≤ 1073741824 := by rw [hl1, List.length_append] at hb; exact hb
 refine rgs fun E K J O => ?_; refine O _ (aN [3, 12, 13, 14, 15] rfl rfl ?_); clear O J K E; refine awp_seq ?_; refine awp_cond2 rfl (onB_intro (fun h1 => ?_) (fun h1 => ?_))
 ·have h1' := of_decide_eq_true h1
  rw [hll1] at h1'
  cases e1 with
  | nil => simp only [List.length_nil] at h1'; omega
  | cons x e1b =>
  subst hl1; simp only [List.length_cons] at hdl1; have hcx := hsz; simp only [condE_app, condE, List.length_append] at hcx; have hxl := wtC_app d1 (x :: e1b); simp only [wtC] at hxl; have hxl2 := wtR_len x
  have hb2 : x.length ≤ 1073741824 := by omega
  refine awp_skip ?_; refine awp_seq ?_; refine awp_block ?_; refine rgs fun E K J O => ?_; refine And.intro (by omega) (Exists.intro _ (And.intro (cnd_at rfl) ?_)); refine O _ (aN [3, 5, 12, 13, 14] rfl rfl ?_); clear O J K E; refine rgs fun E K J O => ?_; refine O _ (aN [3, 12, 13, 14, 18, 19, 20] rfl rfl ?_); clear O J K E; refine awp_block ?_; refine awp_loop (fun k Y => ∃ (d2 e2 : List Ts), k = e2.length ∧ x = d2 ++ e2 ∧ Y = ⟨[(3, .acc 1), (12, .d (.sl 1 (cnd (d1 ++ x :: e1b)))), (13, .d (num (cnd (d1 ++ x :: e1b)).length)), (14, .d (num d1.length)), (18, .d (.sl 9 (tss x))), (19, .d (num (tss x).length)), (20, .d (num d2.length))], [.box 217 [.d (str kind), .d (str name), .d (str proc), .d (.sl 4 (exs args)), .d (.sl 1 (cnd (d1 ++ x :: e1b))), .d (.sl 7 (sms body)), .d (.sl 7 (sms els))], .acc 157 4 (exs ((args ++ condE d1) ++ tsE d2))]⟩) (x.length) (⟨[], x, rfl, rfl, by rw [show tsE ([] : List Ts) = [] from rfl, List.append_nil]; rfl⟩) ?_; rintro k Y ⟨d2, e2, rfl, hl2, rfl⟩
  have hll2 : (tss x).length = d2.length + e2.length := by rw [tss_len3, hl2, List.length_append]
  have hdl2 : d2.length + e2.length ≤ 1073741824 := by rw [hl2, List.length_append] at hb2; exact hb2
  refine rgs fun E K J O => ?_; refine O _ (aN [3, 12, 13, 14, 18, 19, 20, 21] rfl rfl ?_); clear O J K E; refine awp_seq ?_; refine awp_cond2 rfl (onB_intro (fun h2 => ?_) (fun h2 => ?_))
  ·have h2' := of_decide_eq_true h2
   rw [hll2] at h2'
   cases e2 with
   | nil => simp only [List.length_nil] at h2'; omega
   | cons x e2b =>
   obtain ⟨⟨p1, n1, m1, l1⟩, rel, ⟨p2, n2, m2, l2⟩⟩ := x; subst hl2; simp only [List.length_cons] at hdl2; simp only [tsE_app, tsE, List.length_append, List.length_cons] at hcx; refine awp_skip ?_; refine awp_seq ?_; refine awp_block ?_; refine rgs fun E K J O => ?_; refine And.intro (by omega) (Exists.intro _ (And.intro (tss_at rfl) ?_)); refine O _ (aN [3, 7, 12, 13, 14, 18, 19, 20] rfl rfl ?_); clear O J K E; refine rgn fun E K J O => ?_; refine And.intro (And.intro ((by simp only [ex_len, tss_len3, cnd_len3, List.length_append, chunk_length, List.length_cons, List.length_nil] at *; omega)) ((by simp only [ex_len, tss_len3, cnd_len3, List.length_append, chunk_length, List.length_cons, List.length_nil, maxLen] at *; omega))) ?_; refine O _ (aN [3, 12, 13, 14, 18, 19, 20] rfl rfl ?_); clear O J K E; refine rgn fun E K J O => ?_; refine O _ ?_; clear O J K E; exact ⟨_, Nat.lt_succ_self _, _, sub_pick (L := [0, 1]) (slots := [3, 12, 13, 14, 18, 19, 20]) rfl rfl rfl rfl rfl, d2 ++ [⟨.mk p1 n1 m1 l1, rel, .mk p2 n2 m2 l2⟩], e2b, rfl, by simp, by rw [tsx, List.length_append, wrapId (by omega) (by omega)]; rfl⟩
  have h2' := of_decide_eq_false h2; rw [hll2] at h2'; obtain rfl : e2 = [] := List.eq_nil_of_length_eq_zero (by omega); rw [List.append_nil] at hl2; subst hl2; refine awp_exit ?_; refine awp_norm [3, 12, 13, 14] rfl rfl ?_; refine rgn fun E K J O => ?_; refine O _ ?_; clear O J K E; exact ⟨_, Nat.lt_succ_self _, _, sub_pick (L := [0, 1]) (slots := [3, 12, 13, 14]) rfl rfl rfl rfl rfl, d1 ++ [x], e1b, rfl, by simp, by rw [condE_snoc, ← List.append_assoc, List.length_append, wrapId (by omega) (by omega)]; rfl⟩
 have h1' := of_decide_eq_false h1; rw [hll1] at h1'; obtain rfl : e1 = [] := List.eq_nil_of_length_eq_zero (by omega); rw [List.append_nil] at hl1; subst hl1; refine awp_exit ?_; refine awp_norm [3] rfl rfl ?_; refine rgs fun E K J O => ?_; refine O _ (aN [2] rfl rfl ?_); clear O J K E; refine awp_ret ?_; exact ⟨_, [], _, [.d (.sl 4 (exs (args ++ condE cond)))], rfl, rfl, rfl, rfl, rfl, PWs.refl _, rfl⟩
end
mutual
/-- A statement and all that stand in it, in the order of the text. -/
def flatS : Sm → List Sm
 | .mk kind name proc args cond body els => .mk kind name proc args cond body els :: (flatB body ++ flatB els)
def flatB : List Sm → List Sm
 | [] => []
 | s :: r => flatS s ++ flatB r
end
theorem flatB_app : ∀ a b : List Sm, flatB (a ++ b) = flatB a ++ flatB b
 | [], _ => by simp [flatB]
 | t :: a, b => by simp only [List.cons_append, flatB, flatB_app a b, List.append_assoc]
section
variable (G : Glob)
/-- A closure's two boxes: is all right so far; the place. -/
def WkR (vs ay : List ByteArray) (ps : List Pc) (ok : Bool) : List Row := [.box 4 [.d (.s (.bool ok))], .box 196 [.d (.sl 1 (strs vs)), .d (.sl 1 (strs ay)), .d (.sl 7 (pcs ps))]]
theorem walk_snoc (g : Sm → Bool) (ok : Bool) (d : List Sm) (kind name proc : ByteArray) (args : List Ex) (cond : List (List Ts)) (body els : List Sm) : ((((ok && (flatB d).all g) && g (.mk kind name proc args cond body els)) && (flatB body).all g) && (flatB els).all g) = (ok && (flatB (d ++ [.mk kind name proc args cond body els])).all g) := by
 rw [flatB_app]; simp only [flatB, flatS, List.append_nil, List.all_append, List.all_cons, Bool.and_assoc]
def WkOk (vs ay : List ByteArray) (ps : List Pc) (c : FuncId) (g : Sm → Bool) (m : Nat) : Prop := ∀ (l : List Sm) (ok : Bool), fuB l < m → wtB l ≤ 1000000000 → (∀ x, x ∈ flatB l → ∀ ok, Spec Tryz.prog G c [.d (.agg x.cs), .box 0 0, .box 1 0] (WkR vs ay ps ok) (.ret (.tup [])) (WkR vs ay ps (ok && g x))) →
 Spec Tryz.prog G 113 [.d (.sl 7 (sms l)), .fn c [.box 0 0, .box 1 0]] (WkR vs ay ps ok) (.ret (.tup [])) (WkR vs ay ps (ok && (flatB l).all g))
theorem walk_step (vs ay : List ByteArray) (ps : List Pc) (c : FuncId) (g : Sm → Bool) (m : Nat) (ih : WkOk G vs ay ps c g m) : WkOk G vs ay ps c g (m + 1) := by
 intro l ok hf hw hc; have hlen := wtB_len l
 have hbig : l.length ≤ 1073741824 := by omega
 refine spec_of_awp2 TT_ok (N := 24) Tryz.func113 rfl (by rfl) (Nat.le_refl _) rfl ?_; refine rgs fun E K J O => ?_; refine O _ (aN [1, 6, 7, 8] rfl rfl ?_); clear O J K E; refine awp_block ?_; refine awp_loop (fun k Y => ∃ (d1 e1 : List Sm), k = e1.length ∧ l = d1 ++ e1 ∧ Y = ⟨[(1, .fn c [.box 0 0, .box 1 0]), (6, .d (.sl 7 (sms l))), (7, .d (num (sms l).length)), (8, .d (num d1.length))], (WkR vs ay ps (ok && (flatB d1).all g))⟩) (l.length) (⟨[], l, rfl, rfl, by rw [show (flatB ([] : List Sm)).all g = true from rfl, Bool.and_true]; rfl⟩) ?_; rintro k Y ⟨d1, e1, rfl, hl1, rfl⟩
 have hll1 : (sms l).length = d1.length + e1.length := by rw [sms_len2, hl1, List.length_append]
 have hdl1 : d1.length + e1.length ≤ 1073741824 := by rw [hl1, List.length_append] at hbig; exact hbig
 refine rgs fun E K J O => ?_; refine O _ (aN [1, 6, 7, 8, 9] rfl rfl ?_); clear O J K E; refine awp_seq ?_; refine awp_cond2 rfl (onB_intro (fun h1 => ?_) (fun h1 => ?_))
 ·have h1' := of_decide_eq_true h1
  rw [hll1] at h1'
  cases e1 with
  | nil => simp only [List.length_nil] at h1'; omega
  | cons x e1b =>
  obtain ⟨kind, name, proc, args, cond, body, els⟩ := x; subst hl1; simp only [List.length_cons] at hdl1; have hfx := fuB_app d1 (.mk kind name proc args cond body els :: e1b); have hwx := wtB_app d1 (.mk kind name proc args cond body els :: e1b); simp only [fuB, fuS, wtB, wtS] at hfx hwx
  have hm0 : .mk kind name proc args cond body els ∈ flatB (d1 ++ .mk kind name proc args cond body els :: e1b) := by rw [flatB_app]; simp [flatB, flatS]
  have hmb : ∀ y, y ∈ flatB body → y ∈ flatB (d1 ++ .mk kind name proc args cond body els :: e1b) := fun y hy => by rw [flatB_app]; simp [flatB, flatS, hy]
  have hme : ∀ y, y ∈ flatB els → y ∈ flatB (d1 ++ .mk kind name proc args cond body els :: e1b) := fun y hy => by rw [flatB_app]; simp [flatB, flatS, hy]
  refine awp_skip ?_; refine awp_seq ?_; refine awp_block ?_; refine rgs fun E K J O => ?_; refine And.intro (by omega) (Exists.intro _ (And.intro (sms_at2 rfl) ?_)); refine O _ (aN [1, 5, 6, 7, 8] rfl rfl ?_); clear O J K E; refine rgs fun E K J O => ?_; show aCall _ _ _ _ _ _ _; refine aR [0, 1] rfl rfl rfl (hc _ hm0 _) rfl rfl rfl rfl ?_; refine O _ (aN [1, 5, 6, 7, 8] rfl rfl ?_); clear O J K E; refine rgs fun E K J O => ?_; show aCall _ _ _ _ _ _ _; refine aR [0, 1] rfl rfl rfl (ih body _ (by omega) (by omega) (fun y hy => hc y (hmb y hy))) rfl rfl rfl rfl ?_; refine O _ (aN [1, 5, 6, 7, 8] rfl rfl ?_); clear O J K E; refine rgn fun E K J O => ?_; show aCall _ _ _ _ _ _ _; refine aR [0, 1] rfl rfl rfl (ih els _ (by omega) (by omega) (fun y hy => hc y (hme y hy))) rfl rfl rfl rfl ?_; refine O _ (aN [1, 6, 7, 8] rfl rfl ?_); clear O J K E; refine rgn fun E K J O => ?_; refine O _ ?_; clear O J K E; exact ⟨_, Nat.lt_succ_self _, _, sub_pick (L := [0, 1]) (slots := [1, 6, 7, 8]) rfl rfl rfl rfl rfl, d1 ++ [.mk kind name proc args cond body els], e1b, rfl, by simp, by rw [← walk_snoc, List.length_append, wrapId (by omega) (by omega)]; rfl⟩
 have h1' := of_decide_eq_false h1; rw [hll1] at h1'; obtain rfl : e1 = [] := List.eq_nil_of_length_eq_zero (by omega); rw [List.append_nil] at hl1; subst hl1; refine awp_exit ?_; exact ⟨_, [0, 1], _, [], rfl, rfl, rfl, rfl, rfl, PWs.nil, rfl⟩
theorem walk_all (vs ay : List ByteArray) (ps : List Pc) (c : FuncId) (g : Sm → Bool) : ∀ m, WkOk G vs ay ps c g m
 | 0 => fun l ok h => absurd h (by omega)
 | m + 1 => walk_step G vs ay ps c g m (walk_all vs ay ps c g m)
end
end Go.Abs
end
