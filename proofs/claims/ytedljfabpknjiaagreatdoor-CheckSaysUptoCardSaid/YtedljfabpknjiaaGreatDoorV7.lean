/- Texts of this proof, joined: AbsPG, AbsSB, AbsSC, AbsPH, AbsWA, AbsWB, AbsWC. -/
import Derived.Test.YtedljfabpknjiaaGreatDoorV6
import Derived.Test.YtedljfabpknjiaaGreatDoorV5
import Derived.Recover
import Derived.Lib.Builder
import Derived.Lib.Walk
import Derived.Laws.Externs
import Derived.Lib.UnsafeStr
section
namespace Go.Abs
open Go Go.Proofs
attribute [local irreducible] aCall AWp Sub Spec
def varsL (s : ByteArray) : Nat → List ByteArray → PS s → R s (List ByteArray)
 | 0, _, _ => .out
 | n + 1, acc, p => match eqW p.w ⟨#[118, 97, 114]⟩ with
  | true => (nameF s (nx s p)).bind fun m q => (takeF s ⟨#[59]⟩ q).bind fun _ q => varsL s n (acc ++ [m]) q
  | false => .ok acc p
def arrsL (s : ByteArray) : Nat → List Ar → PS s → R s (List Ar)
 | 0, _, _ => .out
 | n + 1, acc, p => match eqW p.w ⟨#[97, 114, 114, 97, 121]⟩ with
  | true => (nameF s (nx s p)).bind fun m q => (takeF s ⟨#[91]⟩ q).bind fun _ q => (numberF s q).bind fun k q => (takeF s ⟨#[93]⟩ q).bind fun _ q => (takeF s ⟨#[59]⟩ q).bind fun _ q => arrsL s n (acc ++ [⟨m, k⟩]) q
  | false => .ok acc p
def prmL (s : ByteArray) : Nat → List ByteArray → PS s → R s (List ByteArray)
 | 0, _, _ => .out
 | n + 1, acc, p => match (!eqW p.w ⟨#[41]⟩) with
  | true => match decide ((acc.length : Int) > 0) with
   | true => (takeF s ⟨#[44]⟩ p).bind fun _ q => (nameF s q).bind fun m q => prmL s n (acc ++ [m]) q
   | false => (nameF s p).bind fun m q => prmL s n (acc ++ [m]) q
  | false => .ok acc (nx s p)
def procsL (s : ByteArray) : Nat → List Pc → PS s → R s (List Pc)
 | 0, _, _ => .out
 | n + 1, acc, p => match eqW p.w ⟨#[112, 114, 111, 99]⟩ with
  | true => (nameF s (nx s p)).bind fun m q => (takeF s ⟨#[40]⟩ q).bind fun _ q => (prmL s n [] q).bind fun l q => match blockQ s n 1 q with
   | .bad _ q c => .bad q c
   | .out => .out
   | .ok b e q => procsL s n (acc ++ [⟨m, l, b, e⟩]) q
  | false => .ok acc p
def progF (s : ByteArray) (n : Nat) (p : PS s) : R s Pg := (varsL s n [] p).bind fun v q => (arrsL s n [] q).bind fun a q => (procsL s n [] q).bind fun f q => (takeF s ⟨#[109, 97, 105, 110]⟩ q).bind fun _ q => (blockF s n 1 q).bind fun b q => (takeF s ⟨#[]⟩ q).bind fun _ q => .ok ⟨v, a, f, b⟩ q
def encP : Pg → PV := fun p => .d (.agg p.cs)
def ars (l : List Ar) : List (List Data) := l.map Ar.cs
def pcs (l : List Pc) : List (List Data) := l.map Pc.cs
theorem strs_snoc (l : List ByteArray) (x : ByteArray) : strs l ++ [[str x]] = strs (l ++ [x]) := by simp [strs]
theorem ars_snoc (l : List Ar) (x : Ar) : ars l ++ [x.cs] = ars (l ++ [x]) := by simp [ars]
theorem pcs_snoc (l : List Pc) (x : Pc) : pcs l ++ [x.cs] = pcs (l ++ [x]) := by simp [pcs]
theorem ars_length (l : List Ar) : (ars l).length = l.length := by simp [ars]
theorem pcs_length (l : List Pc) : (pcs l).length = l.length := by simp [pcs]
def zP : List PV := [nilC, nilC, nilC, nilC]
def PgS (s : ByteArray) (q : PS s) (v : List ByteArray) (a : List Ar) (f : List Pc) : List Row := [rd s q, .box 130 [.box 0 0], .box 28 zP, .box 28 [.acc 4, .acc 5, .acc 6, nilC], .acc 9 1 (strs v), .acc 169 2 (ars a), .acc 159 7 (pcs f)]
section
variable (t : Nat → TypeId) (u : Nat → Value)
def p56_3 : Plan := (.take 0 (.load 1 (.load 2 (.one 3 (.one 4 (.one 5 (.take 6 (.one 7 .done))))))))
def p56_18 : Plan := (.take 0 (.load 1 (.load 2 (.one 3 (.one 4 (.one 5 (.take 6 (.one 7 .done))))))))
theorem progP_spec (s : ByteArray) (hs4 : s.size ≤ 4000) (n : Nat) (hn : n ≤ 1000000) (p : PS s) : PSpec t u 56 [.box 0 0] s p encP (progF s n p) := by
 intro hne; obtain ⟨r, hG⟩ : ∃ r, progF s n p = r := ⟨_, rfl⟩; rw [hG] at hne ⊢
 have hs : s.size < 4611686018427387904 := by omega
 refine spec_of_awp2 TT_ok (N := 82) Tryz.func56 rfl (by rfl) ((by cases r <;> simp [rowsR] at hne ⊢)) rfl ?_
 refine rgs fun E K J O => ?_; refine O _ (aN [1, 2] rfl rfl ?_); clear O J K E; refine rgs fun E K J O => ?_; refine O _ (aN [1, 2, 3] rfl rfl ?_); clear O J K E; refine awp_accCell 3 0 9 1 rfl rfl rfl rfl ?_; refine awp_accCell 3 1 169 2 rfl rfl rfl rfl ?_; refine awp_accCell 3 2 159 7 rfl rfl rfl rfl ?_; refine awp_norm [1, 2, 3] rfl rfl ?_; refine awp_seq ?_; refine awp_block ?_; simp only [progF] at hG; refine awp_loop (fun k Y => ∃ v q, v.length + k ≤ n ∧ ((varsL s k v q).bind fun v q => ((arrsL s n [] q).bind fun a q => (procsL s n [] q).bind fun f q => (takeF s ⟨#[109, 97, 105, 110]⟩ q).bind fun _ q => (blockF s n 1 q).bind fun b q => (takeF s ⟨#[]⟩ q).bind fun _ q => .ok ⟨v, a, f, b⟩ q)) = r ∧ Y = ⟨[(1, .box 1 0), (2, .box 2 0), (3, .box 3 0)], PgS s q v [] []⟩) (n) (⟨[], p, by simp, hG, rfl⟩) ?_; clear hG; rintro k Y ⟨v, q, hk, hG, rfl⟩
 cases k with
 | zero => simp only [varsL, R.bind] at hG; exact absurd hG.symm hne
 | succ m =>
  refine awp_seq ?_; refine rgs fun E K J O => ?_; show aCall _ _ _ _ _ _ _
  cases hr1 : (q.w.toList == (⟨#[118, 97, 114]⟩ : ByteArray).toList) with
  | true =>
   refine aR [0] rfl rfl rfl (hasP_yes (GV t u) s _ q hs hr1) rfl rfl rfl rfl ?_; refine O _ (aN [1, 2, 3, 7] rfl rfl ?_); clear O J K E; refine awp_cond rfl ?_; refine awp_skip ?_; refine awp_block ?_; refine awp_seq ?_; refine (awp_draw TT_ok mixed p56_3 [7] (fun i => Nat.beq i 1 || Nat.beq i 3) (by kernel_rfl) fun E K J O => ?_)
   show aCall _ _ _ _ _ _ _
   have sp2 := nameP_spec t u s (nx s q) hs
   cases hr2 : nameF s (nx s q) with
   | out =>
    simp only [varsL, eqW, R.bind, hr1, hr2] at hG; exact absurd hG.symm hne
   | bad q2 c2 =>
    rw [hr2] at sp2; refine aP [0] rfl rfl rfl (sp2 nofun) rfl rfl rfl rfl ?_; refine J _ _ ?_; simp only [varsL, eqW, R.bind, hr1, hr2] at hG; subst hG; exact ⟨[0, 7], _, rfl, rfl, rfl, rfl, rfl⟩
   | ok a2 q2 =>
    rw [hr2] at sp2; refine aR [0] rfl rfl rfl (sp2 nofun) rfl rfl rfl rfl ?_; refine And.intro (And.intro (by simp only [chunk_length, strs_length]; omega) (by simp only [chunk_length, strs_length, maxLen_eq]; omega)) ?_; refine O _ (aN [1, 2, 3] rfl rfl ?_); clear O J K E; refine rgn fun E K J O => ?_; show aCall _ _ _ _ _ _ _; have sp3 := takeP_spec t u s ⟨#[59]⟩ q2 hs
    cases hr3 : takeF s ⟨#[59]⟩ q2 with
    | out =>
     simp only [varsL, eqW, R.bind, hr1, hr2, hr3] at hG; exact absurd hG.symm hne
    | bad q3 c3 =>
     rw [hr3] at sp3; refine aP [0] rfl rfl rfl (sp3 nofun) rfl rfl rfl rfl ?_; refine J _ _ ?_; simp only [varsL, eqW, R.bind, hr1, hr2, hr3] at hG; subst hG; exact ⟨[0, 7], _, rfl, rfl, rfl, rfl, rfl⟩
    | ok a3 q3 =>
     rw [hr3] at sp3; refine aR [0] rfl rfl rfl (sp3 nofun) rfl rfl rfl rfl ?_; refine O _ ?_; clear O J K E; simp only [varsL, eqW, R.bind, hr1, hr2, hr3] at hG; exact ⟨m, Nat.lt_succ_self m, _, sub_pick (L := [0, 1, 2, 3, 4, 5, 6]) (slots := [1, 2, 3]) rfl rfl rfl rfl rfl, _, _, by simp only [List.length_append, List.length_cons, List.length_nil]; omega, hG, by unfold PgS; rw [← strs_snoc]; rfl⟩
  | false =>
   refine aR [0] rfl rfl rfl (hasP_no (GV t u) s _ q hr1) rfl rfl rfl rfl ?_; refine O _ (aN [1, 2, 3, 7] rfl rfl ?_); clear O J K E; refine awp_cond rfl ?_; refine awp_exit ?_; refine awp_norm [1, 2, 3] rfl rfl ?_; refine awp_seq ?_; refine awp_block ?_; simp only [varsL, eqW, R.bind, hr1] at hG; refine awp_loop (fun k Y => ∃ a q, a.length + k ≤ n ∧ ((arrsL s k a q).bind fun a q => ((procsL s n [] q).bind fun f q => (takeF s ⟨#[109, 97, 105, 110]⟩ q).bind fun _ q => (blockF s n 1 q).bind fun b q => (takeF s ⟨#[]⟩ q).bind fun _ q => .ok ⟨v, a, f, b⟩ q)) = r ∧ Y = ⟨[(1, .box 1 0), (2, .box 2 0), (3, .box 3 0)], PgS s q v a []⟩) (n) (⟨[], q, by simp, hG, rfl⟩) ?_; clear hG; rintro k Y ⟨a, qq, hk2, hG, rfl⟩
   cases k with
   | zero => simp only [arrsL, R.bind] at hG; exact absurd hG.symm hne
   | succ m =>
    refine awp_seq ?_; refine rgs fun E K J O => ?_; show aCall _ _ _ _ _ _ _
    cases hr11 : (qq.w.toList == (⟨#[97, 114, 114, 97, 121]⟩ : ByteArray).toList) with
    | true =>
     refine aR [0] rfl rfl rfl (hasP_yes (GV t u) s _ qq hs hr11) rfl rfl rfl rfl ?_; refine O _ (aN [1, 2, 3, 18] rfl rfl ?_); clear O J K E; refine awp_cond rfl ?_; refine awp_skip ?_; refine awp_block ?_; refine rgs fun E K J O => ?_; show aCall _ _ _ _ _ _ _; have sp12 := nameP_spec t u s (nx s qq) hs
     cases hr12 : nameF s (nx s qq) with
     | out =>
      simp only [arrsL, eqW, R.bind, hr11, hr12] at hG; exact absurd hG.symm hne
     | bad q12 c12 =>
      rw [hr12] at sp12; refine aP [0] rfl rfl rfl (sp12 nofun) rfl rfl rfl rfl ?_; refine J _ _ ?_; simp only [arrsL, eqW, R.bind, hr11, hr12] at hG; subst hG; exact ⟨[0, 7], _, rfl, rfl, rfl, rfl, rfl⟩
     | ok a12 q12 =>
      rw [hr12] at sp12; refine aR [0] rfl rfl rfl (sp12 nofun) rfl rfl rfl rfl ?_; refine O _ (aN [1, 2, 3, 4] rfl rfl ?_); clear O J K E; refine rgs fun E K J O => ?_; show aCall _ _ _ _ _ _ _; have sp13 := takeP_spec t u s ⟨#[91]⟩ q12 hs
      cases hr13 : takeF s ⟨#[91]⟩ q12 with
      | out =>
       simp only [arrsL, eqW, R.bind, hr11, hr12, hr13] at hG; exact absurd hG.symm hne
      | bad q13 c13 =>
       rw [hr13] at sp13; refine aP [0] rfl rfl rfl (sp13 nofun) rfl rfl rfl rfl ?_; refine J _ _ ?_; simp only [arrsL, eqW, R.bind, hr11, hr12, hr13] at hG; subst hG; exact ⟨[0, 8], _, rfl, rfl, rfl, rfl, rfl⟩
      | ok a13 q13 =>
       rw [hr13] at sp13; refine aR [0] rfl rfl rfl (sp13 nofun) rfl rfl rfl rfl ?_; refine O _ (aN [1, 2, 3, 4] rfl rfl ?_); clear O J K E; refine rgs fun E K J O => ?_; show aCall _ _ _ _ _ _ _; have sp14 := numberP_spec t u s q13 hs4
       cases hr14 : numberF s q13 with
       | out =>
        simp only [arrsL, eqW, R.bind, hr11, hr12, hr13, hr14] at hG; exact absurd hG.symm hne
       | bad q14 c14 =>
        rw [hr14] at sp14; refine aP [0] rfl rfl rfl (sp14 nofun) rfl rfl rfl rfl ?_; refine J _ _ ?_; simp only [arrsL, eqW, R.bind, hr11, hr12, hr13, hr14] at hG; subst hG; exact ⟨[0, 8], _, rfl, rfl, rfl, rfl, rfl⟩
       | ok a14 q14 =>
        rw [hr14] at sp14; refine aR [0] rfl rfl rfl (sp14 nofun) rfl rfl rfl rfl ?_; refine O _ (aN [1, 2, 3, 4] rfl rfl ?_); clear O J K E; refine rgs fun E K J O => ?_; show aCall _ _ _ _ _ _ _; have sp15 := takeP_spec t u s ⟨#[93]⟩ q14 hs
        cases hr15 : takeF s ⟨#[93]⟩ q14 with
        | out =>
         simp only [arrsL, eqW, R.bind, hr11, hr12, hr13, hr14, hr15] at hG; exact absurd hG.symm hne
        | bad q15 c15 =>
         rw [hr15] at sp15; refine aP [0] rfl rfl rfl (sp15 nofun) rfl rfl rfl rfl ?_; refine J _ _ ?_; simp only [arrsL, eqW, R.bind, hr11, hr12, hr13, hr14, hr15] at hG; subst hG; exact ⟨[0, 8], _, rfl, rfl, rfl, rfl, rfl⟩
        | ok a15 q15 =>
         rw [hr15] at sp15; refine aR [0] rfl rfl rfl (sp15 nofun) rfl rfl rfl rfl ?_; refine O _ (aN [1, 2, 3, 4] rfl rfl ?_); clear O J K E; refine rgs fun E K J O => ?_; show aCall _ _ _ _ _ _ _; have sp16 := takeP_spec t u s ⟨#[59]⟩ q15 hs
         cases hr16 : takeF s ⟨#[59]⟩ q15 with
         | out =>
          simp only [arrsL, eqW, R.bind, hr11, hr12, hr13, hr14, hr15, hr16] at hG; exact absurd hG.symm hne
         | bad q16 c16 =>
          rw [hr16] at sp16; refine aP [0] rfl rfl rfl (sp16 nofun) rfl rfl rfl rfl ?_; refine J _ _ ?_; simp only [arrsL, eqW, R.bind, hr11, hr12, hr13, hr14, hr15, hr16] at hG; subst hG; exact ⟨[0, 8], _, rfl, rfl, rfl, rfl, rfl⟩
         | ok a16 q16 =>
          rw [hr16] at sp16; refine aR [0] rfl rfl rfl (sp16 nofun) rfl rfl rfl rfl ?_; refine O _ (aN [1, 2, 3, 4] rfl rfl ?_); clear O J K E; refine rgn fun E K J O => ?_; refine And.intro (And.intro (by simp only [chunk_length, ars_length]; omega) (by simp only [chunk_length, ars_length, maxLen_eq]; omega)) ?_; refine O _ ?_; clear O J K E; simp only [arrsL, eqW, R.bind, hr11, hr12, hr13, hr14, hr15, hr16] at hG; exact ⟨m, Nat.lt_succ_self m, _, sub_pick (L := [0, 1, 2, 3, 4, 5, 6]) (slots := [1, 2, 3]) rfl rfl rfl rfl rfl, _, _, by simp only [List.length_append, List.length_cons, List.length_nil]; omega, hG, by unfold PgS; rw [← ars_snoc]; rfl⟩
    | false =>
     refine aR [0] rfl rfl rfl (hasP_no (GV t u) s _ qq hr11) rfl rfl rfl rfl ?_; refine O _ (aN [1, 2, 3, 18] rfl rfl ?_); clear O J K E; refine awp_cond rfl ?_; refine awp_exit ?_; refine awp_norm [1, 2, 3] rfl rfl ?_; refine awp_seq ?_; refine awp_block ?_; simp only [arrsL, eqW, R.bind, hr11] at hG; refine awp_loop (fun k Y => ∃ f q, f.length + k ≤ n ∧ ((procsL s k f q).bind fun f q => ((takeF s ⟨#[109, 97, 105, 110]⟩ q).bind fun _ q => (blockF s n 1 q).bind fun b q => (takeF s ⟨#[]⟩ q).bind fun _ q => .ok ⟨v, a, f, b⟩ q)) = r ∧ Y = ⟨[(1, .box 1 0), (2, .box 2 0), (3, .box 3 0)], PgS s q v a f⟩) (n) (⟨[], qq, by simp, hG, rfl⟩) ?_; clear hG; rintro k Y ⟨f, qr, hk3, hG, rfl⟩
     cases k with
     | zero => simp only [procsL, R.bind] at hG; exact absurd hG.symm hne
     | succ m =>
      refine awp_seq ?_; refine rgs fun E K J O => ?_; show aCall _ _ _ _ _ _ _
      cases hr21 : (qr.w.toList == (⟨#[112, 114, 111, 99]⟩ : ByteArray).toList) with
      | true =>
       refine aR [0] rfl rfl rfl (hasP_yes (GV t u) s _ qr hs hr21) rfl rfl rfl rfl ?_; refine O _ (aN [1, 2, 3, 38] rfl rfl ?_); clear O J K E; refine awp_cond rfl ?_; refine awp_skip ?_; refine awp_block ?_; refine rgs fun E K J O => ?_; show aCall _ _ _ _ _ _ _; have sp22 := nameP_spec t u s (nx s qr) hs
       cases hr22 : nameF s (nx s qr) with
       | out =>
        simp only [procsL, eqW, R.bind, hr21, hr22] at hG; exact absurd hG.symm hne
       | bad q22 c22 =>
        rw [hr22] at sp22; refine aP [0] rfl rfl rfl (sp22 nofun) rfl rfl rfl rfl ?_; refine J _ _ ?_; simp only [procsL, eqW, R.bind, hr21, hr22] at hG; subst hG; exact ⟨[0, 7], _, rfl, rfl, rfl, rfl, rfl⟩
       | ok a22 q22 =>
        rw [hr22] at sp22; refine aR [0] rfl rfl rfl (sp22 nofun) rfl rfl rfl rfl ?_; refine O _ (aN [1, 2, 3, 5] rfl rfl ?_); clear O J K E; refine awp_accCell 7 1 9 1 rfl rfl rfl rfl ?_; refine awp_norm [1, 2, 3, 5] rfl rfl ?_; refine rgs fun E K J O => ?_; show aCall _ _ _ _ _ _ _; have sp23 := takeP_spec t u s ⟨#[40]⟩ q22 hs
        cases hr23 : takeF s ⟨#[40]⟩ q22 with
        | out =>
         simp only [procsL, eqW, R.bind, hr21, hr22, hr23] at hG; exact absurd hG.symm hne
        | bad q23 c23 =>
         rw [hr23] at sp23; refine aP [0] rfl rfl rfl (sp23 nofun) rfl rfl rfl rfl ?_; refine J _ _ ?_; simp only [procsL, eqW, R.bind, hr21, hr22, hr23] at hG; subst hG; exact ⟨[0, 9], _, rfl, rfl, rfl, rfl, rfl⟩
        | ok a23 q23 =>
         rw [hr23] at sp23; refine aR [0] rfl rfl rfl (sp23 nofun) rfl rfl rfl rfl ?_; refine O _ (aN [1, 2, 3, 5] rfl rfl ?_); clear O J K E; refine awp_seq ?_; refine awp_block ?_; simp only [procsL, eqW, R.bind, hr21, hr22, hr23] at hG; refine awp_loop (fun k Y => ∃ acc2 q, acc2.length + k ≤ m ∧ (((prmL s k acc2 q).bind fun l q => match blockQ s m 1 q with | .bad _ q c => .bad q c | .out => .out | .ok b e q => procsL s m (f ++ [⟨a22, l, b, e⟩]) q).bind fun f q => ((takeF s ⟨#[109, 97, 105, 110]⟩ q).bind fun _ q => (blockF s n 1 q).bind fun b q => (takeF s ⟨#[]⟩ q).bind fun _ q => .ok ⟨v, a, f, b⟩ q)) = r ∧ Y = ⟨[(1, .box 1 0), (2, .box 2 0), (3, .box 3 0), (5, .box 7 0)], PgS s q v a f ++ [.box 159 (.d (str a22) :: .acc 8 :: nilC :: zE), .acc 9 1 (strs acc2)]⟩) (m) (⟨[], _, by simp, hG, rfl⟩) ?_; clear hG; rintro k Y ⟨acc2, qs, hk4, hG, rfl⟩
         cases k with
         | zero => simp only [prmL, R.bind] at hG; exact absurd hG.symm hne
         | succ m2 =>
          refine awp_seq ?_; refine rgs fun E K J O => ?_; refine O _ (aN [1, 2, 3, 5, 48] rfl rfl ?_); clear O J K E; refine awp_cond2 rfl (onB_intro (fun h1 => ?_) (fun h1 => ?_))
          ·refine awp_skip ?_; refine awp_block ?_; refine awp_seq ?_; refine rgs fun E K J O => ?_; refine O _ (aN [1, 2, 3, 5, 52] rfl rfl ?_); clear O J K E
           refine awp_cond2 rfl (onB_intro (fun h2 => ?_) (fun h2 => ?_))
           ·rw [strs_length] at h2
            refine rgn fun E K J O => ?_; show aCall _ _ _ _ _ _ _; have sp31 := takeP_spec t u s ⟨#[44]⟩ qs hs
            cases hr31 : takeF s ⟨#[44]⟩ qs with
            | out =>
             simp only [prmL, eqW, R.bind, h1, h2, hr31] at hG; exact absurd hG.symm hne
            | bad q31 c31 =>
             rw [hr31] at sp31; refine aP [0] rfl rfl rfl (sp31 nofun) rfl rfl rfl rfl ?_; refine J _ _ ?_; simp only [prmL, eqW, R.bind, h1, h2, hr31] at hG; subst hG; exact ⟨[0, 9], _, rfl, rfl, rfl, rfl, rfl⟩
            | ok a31 q31 =>
             rw [hr31] at sp31; refine aR [0] rfl rfl rfl (sp31 nofun) rfl rfl rfl rfl ?_; refine O _ (aN [1, 2, 3, 5] rfl rfl ?_); clear O J K E; refine (awp_draw TT_ok mixed p56_18 [7] (fun i => Nat.beq i 1 || Nat.beq i 7) (by kernel_rfl) fun E K J O => ?_)
             show aCall _ _ _ _ _ _ _
             have sp32 := nameP_spec t u s q31 hs
             cases hr32 : nameF s q31 with
             | out =>
              simp only [prmL, eqW, R.bind, h1, h2, hr31, hr32] at hG; exact absurd hG.symm hne
             | bad q32 c32 =>
              rw [hr32] at sp32; refine aP [0] rfl rfl rfl (sp32 nofun) rfl rfl rfl rfl ?_; refine J _ _ ?_; simp only [prmL, eqW, R.bind, h1, h2, hr31, hr32] at hG; subst hG; exact ⟨[0, 9], _, rfl, rfl, rfl, rfl, rfl⟩
             | ok a32 q32 =>
              rw [hr32] at sp32; refine aR [0] rfl rfl rfl (sp32 nofun) rfl rfl rfl rfl ?_; refine And.intro (And.intro (by simp only [chunk_length, strs_length]; omega) (by simp only [chunk_length, strs_length, maxLen_eq]; omega)) ?_; refine O _ ?_; clear O J K E; simp only [prmL, eqW, R.bind, h1, h2, hr31, hr32] at hG; exact ⟨m2, Nat.lt_succ_self m2, _, sub_norm (slots := [1, 2, 3, 5]) rfl rfl, _, _, by simp only [List.length_append, List.length_cons, List.length_nil]; omega, hG, by unfold PgS; rw [← strs_snoc]; rfl⟩
           rw [strs_length] at h2; refine awp_skip ?_; refine (awp_draw TT_ok mixed p56_18 [7] (fun i => Nat.beq i 1 || Nat.beq i 7) (by kernel_rfl) fun E K J O => ?_)
           show aCall _ _ _ _ _ _ _
           have sp31 := nameP_spec t u s qs hs
           cases hr31 : nameF s qs with
           | out =>
            simp only [prmL, eqW, R.bind, h1, h2, hr31] at hG; exact absurd hG.symm hne
           | bad q31 c31 =>
            rw [hr31] at sp31; refine aP [0] rfl rfl rfl (sp31 nofun) rfl rfl rfl rfl ?_; refine J _ _ ?_; simp only [prmL, eqW, R.bind, h1, h2, hr31] at hG; subst hG; exact ⟨[0, 9], _, rfl, rfl, rfl, rfl, rfl⟩
           | ok a31 q31 =>
            rw [hr31] at sp31; refine aR [0] rfl rfl rfl (sp31 nofun) rfl rfl rfl rfl ?_; refine And.intro (And.intro (by simp only [chunk_length, strs_length]; omega) (by simp only [chunk_length, strs_length, maxLen_eq]; omega)) ?_; refine O _ ?_; clear O J K E; simp only [prmL, eqW, R.bind, h1, h2, hr31] at hG; exact ⟨m2, Nat.lt_succ_self m2, _, sub_norm (slots := [1, 2, 3, 5]) rfl rfl, _, _, by simp only [List.length_append, List.length_cons, List.length_nil]; omega, hG, by unfold PgS; rw [← strs_snoc]; rfl⟩
          refine awp_exit ?_; refine awp_norm [1, 2, 3, 5] rfl rfl ?_; refine rgs fun E K J O => ?_; show aCall _ _ _ _ _ _ _; refine aR [0] rfl rfl rfl (nextP_spec _ s qs hs) rfl rfl rfl rfl ?_; refine O _ (aN [1, 2, 3, 5] rfl rfl ?_); clear O J K E; refine rgs fun E K J O => ?_; show aCall _ _ _ _ _ _ _; have sp31 := blockQ_spec t u s hs4 m (by omega) 1 (nx s qs) a22 (.sl 1 (strs acc2))
          cases hr31 : blockQ s m 1 (nx s qs) with
          | out =>
           simp only [prmL, eqW, R.bind, h1, hr31] at hG; exact absurd hG.symm hne
          | bad oe q31 c31 =>
           rw [hr31] at sp31
           cases oe with
           | none =>
            refine aP [0, 1, 7] rfl rfl rfl (sp31 nofun) rfl rfl rfl rfl ?_; refine J _ _ ?_; simp only [prmL, eqW, R.bind, h1, hr31] at hG; subst hG; exact ⟨[0, 9], _, rfl, rfl, rfl, rfl, rfl⟩
           | some ex =>
            obtain ⟨o9, n9, m9, l9⟩ := ex; refine aP [0, 1, 7] rfl rfl rfl (sp31 nofun) rfl rfl rfl rfl ?_; refine J _ _ ?_; simp only [prmL, eqW, R.bind, h1, hr31] at hG; subst hG; exact ⟨[0, 9], _, rfl, rfl, rfl, rfl, rfl⟩
          | ok b31 e31 q31 =>
           obtain ⟨o9, n9, m9, l9⟩ := e31; rw [hr31] at sp31; refine aR [0, 1, 7] rfl rfl rfl (sp31 nofun) rfl rfl rfl rfl ?_; refine O _ (aN [1, 2, 3, 5] rfl rfl ?_); clear O J K E; refine rgn fun E K J O => ?_; refine And.intro (And.intro (by simp only [chunk_length, pcs_length]; omega) (by simp only [chunk_length, pcs_length, maxLen_eq]; omega)) ?_; refine O _ ?_; clear O J K E; simp only [prmL, eqW, R.bind, h1, hr31] at hG; exact ⟨m, Nat.lt_succ_self m, _, sub_pick (L := [0, 1, 2, 3, 4, 5, 6]) (slots := [1, 2, 3]) rfl rfl rfl rfl rfl, _, _, by simp only [List.length_append, List.length_cons, List.length_nil]; omega, hG, by unfold PgS; rw [← pcs_snoc]; rfl⟩
      | false =>
       refine aR [0] rfl rfl rfl (hasP_no (GV t u) s _ qr hr21) rfl rfl rfl rfl ?_; refine O _ (aN [1, 2, 3, 38] rfl rfl ?_); clear O J K E; refine awp_cond rfl ?_; refine awp_exit ?_; refine awp_norm [1, 2, 3] rfl rfl ?_; refine rgs fun E K J O => ?_; show aCall _ _ _ _ _ _ _; have sp22 := takeP_spec t u s ⟨#[109, 97, 105, 110]⟩ qr hs
       cases hr22 : takeF s ⟨#[109, 97, 105, 110]⟩ qr with
       | out =>
        simp only [procsL, eqW, R.bind, hr21, hr22] at hG; exact absurd hG.symm hne
       | bad q22 c22 =>
        rw [hr22] at sp22; refine aP [0] rfl rfl rfl (sp22 nofun) rfl rfl rfl rfl ?_; refine J _ _ ?_; simp only [procsL, eqW, R.bind, hr21, hr22] at hG; subst hG; exact ⟨[0, 7], _, rfl, rfl, rfl, rfl, rfl⟩
       | ok a22 q22 =>
        rw [hr22] at sp22; refine aR [0] rfl rfl rfl (sp22 nofun) rfl rfl rfl rfl ?_; refine O _ (aN [1, 2, 3] rfl rfl ?_); clear O J K E; refine rgs fun E K J O => ?_; show aCall _ _ _ _ _ _ _; have sp23 := blockP_spec t u s hs4 n hn 1 q22
        cases hr23 : blockF s n 1 q22 with
        | out =>
         simp only [procsL, eqW, R.bind, hr21, hr22, hr23] at hG; exact absurd hG.symm hne
        | bad q23 c23 =>
         rw [hr23] at sp23; refine aP [0] rfl rfl rfl (sp23 nofun) rfl rfl rfl rfl ?_; refine J _ _ ?_; simp only [procsL, eqW, R.bind, hr21, hr22, hr23] at hG; subst hG; exact ⟨[0, 7], _, rfl, rfl, rfl, rfl, rfl⟩
        | ok a23 q23 =>
         rw [hr23] at sp23; refine aR [0] rfl rfl rfl (sp23 nofun) rfl rfl rfl rfl ?_; refine O _ (aN [1, 2, 3] rfl rfl ?_); clear O J K E; refine rgs fun E K J O => ?_; show aCall _ _ _ _ _ _ _; have sp24 := takeP_spec t u s ⟨#[]⟩ q23 hs
         cases hr24 : takeF s ⟨#[]⟩ q23 with
         | out =>
          simp only [procsL, eqW, R.bind, hr21, hr22, hr23, hr24] at hG; exact absurd hG.symm hne
         | bad q24 c24 =>
          rw [hr24] at sp24; refine aP [0] rfl rfl rfl (sp24 nofun) rfl rfl rfl rfl ?_; refine J _ _ ?_; simp only [procsL, eqW, R.bind, hr21, hr22, hr23, hr24] at hG; subst hG; exact ⟨[0, 7], _, rfl, rfl, rfl, rfl, rfl⟩
         | ok a24 q24 =>
          rw [hr24] at sp24; refine aR [0] rfl rfl rfl (sp24 nofun) rfl rfl rfl rfl ?_; refine O _ (aN [2, 3] rfl rfl ?_); clear O J K E; refine rgs fun E K J O => ?_; refine O _ (aN [2] rfl rfl ?_); clear O J K E; refine awp_ret ?_; simp only [procsL, eqW, R.bind, hr21, hr22, hr23, hr24] at hG; subst hG; exact ⟨_, [0], _, [encP _], rfl, rfl, rfl, rfl, rfl, PWs.refl _, rfl⟩
end
end Go.Abs
end
section
namespace Go.Abs
open Go
section
variable {P : Program} {T : Tab} {G : Glob} {D D' : List Deferred} {N B : Nat} {X X' : St} {H H' H0 : Nat → Option Value} {lim lim' lim0 : Nat → Nat} {a : Act} {w w' w0 : World} {L : List Nat}

/-- The operations of a region, whatever is to hold behind them. -/
theorem aops_run (hT : TabOk P T) {ops : Array Oper} {Q : Exit → Act → World → Prop} {K : St → Prop} {pan : PV → St → Prop}
  (hn : ∀ X H lim a w, K X → Rep D G N H lim X a w → Lk B H0 lim0 w0 H lim w → Q .normal a w)
  (hp : ∀ p X H lim a w v, pan p X → Rep D G N H lim X a w → Lk B H0 lim0 w0 H lim w → V H lim w p v → Q (.panic [{ v, recovered := false }]) a w) :
  ∀ (l : List Nat) (X : St) (H : Nat → Option Value) (lim : Nat → Nat) (a : Act) (w : World), aops P T G N ops pan l K X → Rep D G N H lim X a w → Lk B H0 lim0 w0 H lim w → wpOps P ops Q l a w
 | [], X, H, lim, a, w, h, hR, lk => hn X H lim a w h hR lk
 | i :: l, X, H, lim, a, w, h, hR, lk => by
  simp only [aops] at h
  simp only [wpOps]
  split at h
  ·rename_i o ho
   rw [nth_ops] at ho
   rw [ho]
   split at h
   ·rename_i hd
    simp only
    rcases guarded_sound hR h with ⟨hw, X1, hR1, _, h⟩ | ⟨hw, X1, hR1, _, h⟩
    ·rw [if_pos hw]
     refine .inl (act_sound hT hR1 h ?_ ?_)
     ·intro p X' F H' lim' w' v hk hnx hv
      exact aops_run hT hn hp l _ H' lim' _ w' hk (rep_put hnx.rep hd hv) (lk.trans hnx.lk)
     intro p X' H' lim' w' v hpp hR' lk' hv
     exact hp p X' H' lim' a w' v hpp hR' (lk.trans (lk' B)) hv
    rw [if_neg (by simp [hw])]
    exact aops_run hT hn hp l _ H lim _ w h (rep_put hR1 hd (V_s _)) lk
   exact h.elim
  exact h.elim
/-- The same in a deferred call. -/
theorem aops_runS (hT : TabOk P T) {ops : Array Oper} {Q : Exit → Act → List Frame → World → Prop} {cs : List Frame} {K : St → Prop} {pan : PV → St → Prop}
  (hn : ∀ X H lim a w, K X → Rep D G N H lim X a w → Lk B H0 lim0 w0 H lim w → Q .normal a cs w)
  (hp : ∀ p X H lim a w v, pan p X → Rep D G N H lim X a w → Lk B H0 lim0 w0 H lim w → V H lim w p v → Q (.panic [{ v, recovered := false }]) a cs w) :
  ∀ (l : List Nat) (X : St) (H : Nat → Option Value) (lim : Nat → Nat) (a : Act) (w : World), aops P T G N ops pan l K X → Rep D G N H lim X a w → Lk B H0 lim0 w0 H lim w → wpOpsS P ops Q l a cs w
 | [], X, H, lim, a, w, h, hR, lk => hn X H lim a w h hR lk
 | i :: l, X, H, lim, a, w, h, hR, lk => by
  simp only [aops] at h
  simp only [wpOpsS]
  split at h
  ·rename_i o ho
   rw [nth_ops] at ho
   rw [ho]
   split at h
   ·rename_i hd
    simp only
    rcases guarded_sound hR h with ⟨hw, X1, hR1, _, h⟩ | ⟨hw, X1, hR1, _, h⟩
    ·rw [if_pos hw]
     have key : o.wp P a w (fun a' w' => wpOpsS P ops Q l a' cs w') (fun e a' w' => Q e a' cs w') := by
      refine act_sound hT hR1 h ?_ ?_
      ·intro p X' F H' lim' w' v hk hnx hv
       exact aops_runS hT hn hp l _ H' lim' _ w' hk (rep_put hnx.rep hd hv) (lk.trans hnx.lk)
      intro p X' H' lim' w' v hpp hR' lk' hv
      exact hp p X' H' lim' a w' v hpp hR' (lk.trans (lk' B)) hv
     unfold Oper.wp at key
     split
     ·rename_i w' hr
      rw [hr] at key
      exact key.elim
     exact key
    rw [if_neg (by simp [hw])]
    exact aops_runS hT hn hp l _ H lim _ w h (rep_put hR1 hd (V_s _)) lk
   exact h.elim
  exact h.elim

/-- In which mode a deferred call finds its caller, and what recover gives it. -/
def ModeOk (H : Nat → Option Value) (lim : Nat → Nat) (w : World) (r : PV) (u : FrameMode) : Prop :=
 (r = .d (.s .nilIface) ∧ u = .returning) ∨ ∃ v, u = .panicking [{ v, recovered := false }] ∧ V H lim w r v
/-- A deferred closure's contract: what recover gives it, it recovers. -/
def DSpec (P : Program) (G : Glob) (g : FuncId) (args : List PV) (rows : List Row) (r : PV) (rows' : List Row) : Prop :=
 (∀ (av : Array Value) (w : World), (callFunc g av).run P w = .ok (.enter g av) w) ∧ rows.length ≤ rows'.length ∧
 ∀ (H : Nat → Option Value) (lim : Nat → Nat) (w : World) (vs : List Value) (u : FrameMode), RowsOk H lim w rows → GlobOk G H lim w → Vs H lim w args vs → ModeOk H lim w r u →
  CallsD P g vs.toArray u w fun e u' w' => (∃ v, e = .returned v) ∧ settle u' = .returning ∧ ∃ (H' : Nat → Option Value) (lim' : Nat → Nat), RowsOk H' lim' w' rows' ∧ Fr (Bl H) lim w lim' w' ∧
   (∀ id v, stay v = true → H id = some v → H' id = H id) ∧ (∀ b, Bl H' b → Bl H b ∨ w.heap.size ≤ b)

/-- A closure's contract from its body: a region that recovers first, then the rest. -/
theorem dspec_of_awp (hT : TabOk P T) {g : FuncId} {fn : Func} {id d0 : Nat} {ops : Array Oper} {o0 : Oper} {y : Code} {args : List PV} {rows rows' : List Row} {r : PV} {l : List Nat} {tys : Array TypeId}
  (hf : P.funcs[g]? = some fn) (hb : fn.body = some (.seq (.region id ops false) y)) (hname : (fn.name == "runtime.NumGoroutine") = false) (hres : fn.results.toList = [])
  (hlen : rows.length ≤ rows'.length) (hN : N = args.length + (fn.ntmps - args.length)) (hl : List.range ops.size = 0 :: l) (h0 : ops[0]? = some o0) (hop : o0.op = .call { callee := .builtin .recover, args := #[], argTypes := tys }) (hg0 : o0.guard = none) (hd0 : o0.dst = some d0) (hdN : Nat.blt d0 N = true)
  (h : ∀ (pan : PV → St → Prop) (K : St → Prop), (∀ Z, AWp [] P G N rows.length y (fun e Z => match e with
    | .normal => ∃ L, L.take rows.length = List.range rows.length ∧ nodupB L = true ∧ pickRows (sIn L Z.rows) Z.rows L = some rows'
    | .ret => ∃ L, L.take rows.length = List.range rows.length ∧ nodupB L = true ∧ pickRows (sIn L Z.rows) Z.rows L = some rows'
    | _ => False) Z → K Z) → aops P T G N ops pan l K ⟨(d0, r) :: argEnv 0 args, rows⟩) : DSpec P G g args rows r rows' := by
 refine ⟨fun av w => ?_, hlen, fun H lim w vs u hrows hglob hvs hmode => ?_⟩
 ·have hne : ¬ fn.name = "runtime.NumGoroutine" := by simpa using hname
  simp [callFunc, hf, hne, hb, program, Sem.run]
 have hvl : vs.length = args.length := Vs_length hvs
 have hlt0 : d0 < N := by simpa [Nat.blt_eq] using hdN
 have hrep0 : Rep [] G N H lim ⟨argEnv 0 args, rows⟩ { tmps := vs.toArray ++ Array.replicate (fn.ntmps - vs.toArray.size) undef, defers := [] } w := by
  refine ⟨fun j p hj => ?_, hrows, hglob, rfl, by simp [hN, hvl]⟩
  obtain ⟨_, hj⟩ := argEnv_look hj
  obtain ⟨v, h1, h2⟩ := Vs_get hvs hj
  simp only [Nat.sub_zero] at h1
  have hlt := (List.getElem?_eq_some_iff.1 h1).1
  refine ⟨by omega, ?_⟩
  have : ((vs.toArray ++ Array.replicate (fn.ntmps - vs.toArray.size) undef).getD j undef) = v := by
   rw [Array.getD_eq_getD_getElem?, Array.getElem?_append_left (by simpa using hlt)]
   simp [h1]
  rw [this]
  exact h2
 refine callsD_of_wpS hf hb fun c₀ cs hu => ?_
 have hptr : ∀ {H' : Nat → Option Value} {lim' : Nat → Nat} {w' : World}, Lk rows.length H lim w H' lim' w' → ∀ id v, stay v = true → H id = some v → H' id = H id := fun lk id q hst hq => by
  rcases Nat.lt_or_ge id rows.length with hlt | hlt
  ·exact lk.ptr id q hlt hst hq
  rw [hrows.dom id hlt] at hq; cases hq
 have go : ∀ (v : Value) (u' : FrameMode), V H lim w r v → settle u' = .returning → 
   wpOpsS P ops (Exit.thenS (y.wpS P (bodyPostS P fn c₀ cs fun e u' w' => (∃ v, e = .returned v) ∧ settle u' = .returning ∧ ∃ (H' : Nat → Option Value) (lim' : Nat → Nat), RowsOk H' lim' w' rows' ∧ Fr (Bl H) lim w lim' w' ∧
    (∀ id v, stay v = true → H id = some v → H' id = H id) ∧ (∀ b, Bl H' b → Bl H b ∨ w.heap.size ≤ b))) (bodyPostS P fn c₀ cs fun e u' w' => (∃ v, e = .returned v) ∧ settle u' = .returning ∧ ∃ (H' : Nat → Option Value) (lim' : Nat → Nat), RowsOk H' lim' w' rows' ∧ Fr (Bl H) lim w lim' w' ∧
    (∀ id v, stay v = true → H id = some v → H' id = H id) ∧ (∀ b, Bl H' b → Bl H b ∨ w.heap.size ≤ b))) l
    (Act.put { tmps := vs.toArray ++ Array.replicate (fn.ntmps - vs.toArray.size) undef, defers := [] } (some d0) v) ({ c₀ with mode := u' } :: cs) w := by
  intro v u' hv hu'
  have hrep1 := rep_put (d := some d0) hrep0 (by simp only [dstOk]; exact hdN) hv
  refine aops_runS (D := []) (B := rows.length) (H0 := H) (lim0 := lim) (w0 := w) hT (K := _) (pan := fun _ _ => False) ?_ (fun p X H lim a w v q => q.elim) l _ H lim _ w (h _ _ fun Z q => q) hrep1 Lk.refl
  intro Z H1 lim1 a1 w1 hz hR1 lk1
  refine wpS_of_wp (wp_mono (hz H1 lim1 a1 w1 hR1) ?_)
  intro e a2 w2 hp
  have fin : ∀ X2 H2 lim2, Rep [] G N H2 lim2 X2 a2 w2 → Lk rows.length H1 lim1 w1 H2 lim2 w2 → (∃ L, L.take rows.length = List.range rows.length ∧ nodupB L = true ∧ pickRows (sIn L X2.rows) X2.rows L = some rows') →
    a2.defers = [] ∧ ∃ u'', ({ c₀ with mode := u' } :: cs : List Frame) = { c₀ with mode := u'' } :: cs ∧ ∃ v, (results fn a2.tmps).run P w2 = .ok v w2 ∧ ((∃ v', Ending.returned v = .returned v') ∧ settle u'' = .returning ∧ ∃ (H' : Nat → Option Value) (lim' : Nat → Nat), RowsOk H' lim' w2 rows' ∧ Fr (Bl H) lim w lim' w2 ∧
     (∀ id v, stay v = true → H id = some v → H' id = H id) ∧ (∀ b, Bl H' b → Bl H b ∨ w.heap.size ≤ b)) := by
   intro X2 H2 lim2 hR2 lk2 ⟨L, q1, q2, q3⟩
   have lk3 := (lk1.trans lk2).trans (pick_lk (H := H2) (lim := lim2) (w := w2) q1)
   obtain ⟨us, r1, _⟩ := results_run (P := P) (fn := fn) hT hR2 (by rw [hres]; rfl)
   exact ⟨hR2.defers, u', rfl, _, r1, ⟨_, rfl⟩, hu', HL L H2, lim2, rows_pick hR2.rows q2 q3, lk3.fr, hptr lk3, lk3.blocks⟩
  cases e <;> simp only [Post, bodyPostS] at hp ⊢
  ·obtain ⟨X2, H2, lim2, g1, g2, g3⟩ := hp
   exact fin X2 H2 lim2 g1 g2 g3
  ·obtain ⟨_, _, _, _, _, hf⟩ := hp
   exact hf
  ·obtain ⟨X2, H2, lim2, g1, g2, g3⟩ := hp
   exact fin X2 H2 lim2 g1 g2 g3
  obtain ⟨_, _, _, _, _, _, _, _, _, _, hf⟩ := hp
  exact hf.elim
 refine wpS_seq (wpS_region ?_)
 rw [hl]
 simp only [wpOpsS, h0, Region.wanted, hg0, if_true]
 have hrec : (execOp ({ tmps := vs.toArray ++ Array.replicate (fn.ntmps - vs.toArray.size) undef, defers := [] } : Act).eval o0).run P w = .ok .recover w := by
  simp [execOp, hop, resolve, invoke, builtin]
 rw [hrec]
 simp only [hd0]
 rcases hmode with ⟨hr, hu'⟩ | ⟨v, hu', hv⟩
 ·have : recoverD (c₀ :: cs) = none := by simp [recoverD, hu, hu']
  rw [this]
  simp only
  have hc : c₀ = { c₀ with mode := FrameMode.returning } := by rw [← hu', ← hu]
  have := go .nilIface .returning (by rw [hr]; simp only [V, VD]) rfl
  rw [← hc] at this
  exact this
 have : recoverD (c₀ :: cs) = some (v, { c₀ with mode := .panicking [{ v, recovered := true }] } :: cs) := by simp [recoverD, hu, hu']
 rw [this]
 exact go v _ hv rfl
end
end Go.Abs
end
section
namespace Go.Abs
open Go
/-- From here on the code comes to such an end. -/
def GW (D : List Deferred) (P : Program) (G : Glob) (N B : Nat) (H0 : Nat → Option Value) (lim0 : Nat → Nat) (w0 : World) (c : Code) (Q : Exit → Act → World → Prop) (X : St) : Prop :=
 ∀ (H : Nat → Option Value) (lim : Nat → Nat) (a : Act) (w : World), Rep D G N H lim X a w → Lk B H0 lim0 w0 H lim w → c.wp P Q a w
/-- An end at which a state is told. -/
def EndOk (D : List Deferred) (G : Glob) (N B : Nat) (H0 : Nat → Option Value) (lim0 : Nat → Nat) (w0 : World) (Q : Exit → Act → World → Prop) (X : St) : Prop :=
 ∀ (H : Nat → Option Value) (lim : Nat → Nat) (a : Act) (w : World), Rep D G N H lim X a w → Lk B H0 lim0 w0 H lim w → Q .ret a w
def PanOk (D : List Deferred) (G : Glob) (N B : Nat) (H0 : Nat → Option Value) (lim0 : Nat → Nat) (w0 : World) (Q : Exit → Act → World → Prop) (p : PV) (X : St) : Prop :=
 ∀ (H : Nat → Option Value) (lim : Nat → Nat) (a : Act) (w : World) (v : Value), Rep D G N H lim X a w → Lk B H0 lim0 w0 H lim w → V H lim w p v → Q (.panic [{ v, recovered := false }]) a w
/-- What a contract says of the end. -/
def SpecR (H : Nat → Option Value) (lim : Nat → Nat) (w : World) (out : Out) (rows' : List Row) (e : Ending) (w' : World) : Prop :=
 ∃ (H' : Nat → Option Value) (lim' : Nat → Nat), RowsOk H' lim' w' rows' ∧ Fr (Bl H) lim w lim' w' ∧ (∀ id v, stay v = true → H id = some v → H' id = H id) ∧ (∀ b, Bl H' b → Bl H b ∨ w.heap.size ≤ b) ∧ OutOk H' lim' w' out e
/-- The results, told over few rows. -/
def ResOk (T : Tab) (fn : Func) (B : Nat) (out : Out) (rows' : List Row) (X : St) : Prop :=
 ∃ ps L ps' ps'', aResults T X fn.results.toList = some ps ∧ L.take B = List.range B ∧ nodupB L = true ∧ PV.subs (sIn L X.rows) ps = some ps' ∧ pickRows (sIn L X.rows) X.rows L = some rows' ∧ PWs ps' ps'' ∧ out = .ret (resOf ps'')
section
variable {P : Program} {T : Tab} {G : Glob} {D D' : List Deferred} {N B B1 : Nat} {X X' : St} {H H' H0 H1 : Nat → Option Value} {lim lim' lim0 lim1 : Nat → Nat} {a : Act} {w w' w0 w1 : World} {L : List Nat} {Q : Exit → Act → World → Prop} {x y : Code}

theorem gw_seq_region (hT : TabOk P T) {id : Nat} {ops : Array Oper} (h : ∀ (pan : PV → St → Prop) (K : St → Prop), (∀ p Z, PanOk D G N B H0 lim0 w0 Q p Z → pan p Z) → (∀ Z, GW D P G N B H0 lim0 w0 y Q Z → K Z) → aops P T G N ops pan (List.range ops.size) K X) :
  GW D P G N B H0 lim0 w0 (.seq (.region id ops false) y) Q X := by
 intro H lim a w hR lk
 refine wp_seq (wp_region (aops_run (D := D) (B := B) (H0 := H0) (lim0 := lim0) (w0 := w0) hT (K := fun Z => GW D P G N B H0 lim0 w0 y Q Z) (pan := fun p Z => PanOk D G N B H0 lim0 w0 Q p Z) ?_ ?_ _ X H lim a w (h _ _ (fun _ _ q => q) fun _ q => q) hR lk))
 ·intro Z H lim a w hz hR lk
  exact hz H lim a w hR lk
 intro p Z H lim a w v hz hR lk hv
 exact hz H lim a w v hR lk hv
theorem gw_sub (hs : Sub D G N B X X') (h : GW D P G N B H0 lim0 w0 x Q X') : GW D P G N B H0 lim0 w0 x Q X := by
 intro H lim a w hR lk
 obtain ⟨H', lim', r1, r2⟩ := hs H lim a w hR
 exact h H' lim' a w r1 (lk.trans r2)
theorem gw_norm (slots : List Nat) {env' : List (Nat × PV)} {rows' : List Row} (h1 : pickEnv X.env slots = some env') (h2 : forceRows X.rows = some rows') (h : GW D P G N B H0 lim0 w0 x Q ⟨env', rows'⟩) : GW D P G N B H0 lim0 w0 x Q X :=
 gw_sub (sub_norm h1 h2) h
theorem gw_ret (h : EndOk D G N B H0 lim0 w0 Q X) : GW D P G N B H0 lim0 w0 .ret Q X := fun H lim a w hR lk => wp_ret (h H lim a w hR lk)
/-- A part that ends normally, or returns. -/
theorem gw_seq_awp (h : AWp D P G N B x (fun e Z => match e with
  | .normal => GW D P G N B H0 lim0 w0 y Q Z
  | .ret => EndOk D G N B H0 lim0 w0 Q Z
  | _ => False) X) : GW D P G N B H0 lim0 w0 (.seq x y) Q X := by
 intro H lim a w hR lk
 refine wp_seq (wp_mono (h H lim a w hR) ?_)
 intro e a' w' hp
 cases e <;> simp only [Post, Exit.then] at hp ⊢
 ·obtain ⟨X', H', lim', h1, h2, h3⟩ := hp
  exact h3 H' lim' a' w' h1 (lk.trans h2)
 ·obtain ⟨_, _, _, _, _, hf⟩ := hp
  exact hf.elim
 ·obtain ⟨X', H', lim', h1, h2, h3⟩ := hp
  exact h3 H' lim' a' w' h1 (lk.trans h2)
 obtain ⟨_, _, _, _, _, _, _, _, _, _, hf⟩ := hp
 exact hf.elim

/-- The region that defers a closure. -/
theorem gw_seq_defer {id t g : Nat} {caps : Array Operand} {tys : Array TypeId} {cs : List PV} {o0 o1 : Oper} {ops : Array Oper} (hops : ops = #[o0, o1]) (h0 : o0.op = .makeFunc (.func g) #[] caps) (hd0 : o0.dst = some t) (hg0 : o0.guard = none)
  (h1 : o1.op = .defer { callee := .value (.tmp t), args := #[], argTypes := tys }) (hd1 : o1.dst = none) (hg1 : o1.guard = none) (ht : Nat.blt t N = true) (hcs : evs G X caps.toList = some cs)
  (h : ∀ (H1 : Nat → Option Value) (lim1 : Nat → Nat) (w1 : World) (vs : List Value), Lk B H0 lim0 w0 H1 lim1 w1 → Vs H1 lim1 w1 cs vs →
   GW [{ target := .fn (.func g) vs.toArray, args := #[] }] P G N X.rows.length H1 lim1 w1 y Q ⟨(t, .fn g cs) :: X.env, X.rows⟩) :
  GW [] P G N B H0 lim0 w0 (.seq (.region id ops false) y) Q X := by
 intro H lim a w hR lk
 have hvs := evs_sound hR _ _ hcs
 have hlt : t < N := by simpa [Nat.blt_eq] using ht
 refine wp_seq (wp_region ?_)
 subst hops
 have hr : List.range (#[o0, o1] : Array Oper).size = [0, 1] := rfl
 rw [hr]
 have hfn : V H lim w (.fn g cs) (.func (.func g) #[] (caps.map a.eval)) := by
  simp only [V]
  exact ⟨caps.toList.map a.eval, by congr 1; apply Array.ext'; simp, hvs⟩
 have hR1 := rep_put (d := some t) hR (by simp only [dstOk]; exact ht) hfn
 have hget : (a.put (some t) (.func (.func g) #[] (caps.map a.eval))).tmps.getD t undef = .func (.func g) #[] (caps.map a.eval) := by
  simp [Act.put, hR.size, hlt]
 have e0 : (execOp a.eval o0).run P w = .ok (.value (.func (.func g) #[] (caps.map a.eval))) w := by
  simp [execOp, h0, Instr.makeFunc]
 have e1 : (execOp (a.put (some t) (.func (.func g) #[] (caps.map a.eval))).eval o1).run P w = .ok (.defer { target := .fn (.func g) (caps.map a.eval), args := #[] }) w := by
  simp [execOp, h1, resolve, Act.eval, hget, Deferred.ofValue]
 have i0 : (#[o0, o1] : Array Oper)[0]? = some o0 := rfl
 have i1 : (#[o0, o1] : Array Oper)[1]? = some o1 := rfl
 have g0 : ∀ f, Region.wanted o0 f = true := fun f => by simp [Region.wanted, hg0]
 have g1 : ∀ f, Region.wanted o1 f = true := fun f => by simp [Region.wanted, hg1]
 unfold wpOps
 rw [i0]
 simp only
 rw [if_pos (g0 _)]
 refine .inl ?_
 unfold Oper.wp
 rw [e0, Oper.upon_value, hd0]
 unfold wpOps
 rw [i1]
 simp only
 rw [if_pos (g1 _)]
 refine .inl ?_
 unfold Oper.wp
 rw [e1, Oper.upon_defer, hd1]
 unfold wpOps
 simp only [Exit.then, Act.put]
 have hd : a.defers = [] := hR.defers
 have hdd : caps.map a.eval = (caps.toList.map a.eval).toArray := by apply Array.ext'; simp
 refine h H lim w (caps.toList.map a.eval) lk hvs H lim _ w ⟨hR1.env, hR1.rows, hR1.glob, ?_, hR1.size⟩ Lk.refl
 simp only [hd, hdd]

/-- What the deferred closure makes of the last state; then the results. -/
def DeferOk (P : Program) (T : Tab) (G : Glob) (g : FuncId) (cs : List PV) (fn : Func) (B : Nat) (out : Out) (rows' : List Row) (r : PV) (X : St) : Prop :=
 ∃ (L : List Nat) (args' : List PV) (r' : PV) (rowsL rowsL' rows1 rows2 : List Row) (env' : List (Nat × PV)),
  nodupB L = true ∧ PV.subs (sIn L X.rows) cs = some args' ∧ PV.sub (sIn L X.rows) r = some r' ∧ pickRows (sIn L X.rows) X.rows L = some rowsL ∧ DSpec P G g args' rowsL r' rowsL' ∧
  demRows (sOut L X.rows.length) rowsL' = some rows2 ∧ demEnv (sKeep L X.rows) X.env = some env' ∧ demRows (sKeep L X.rows) X.rows = some rows1 ∧ ResOk T fn B out rows' ⟨env', place L rows1 rows2⟩
theorem leaves_of (hT : TabOk P T) {g : FuncId} {cs : List PV} {vs : List Value} {fn : Func} {out : Out} {rows' : List Row} {r : PV} {u : FrameMode} (hn : ∀ i, B ≤ i → H0 i = none) (hR : Rep D G N H lim X a w) (lk : Lk B H0 lim0 w0 H lim w)
  (hcs : Vs H lim w cs vs) (hu : (r = .d (.s .nilIface) ∧ u = .returning) ∨ ∃ v, u = .panicking [{ v, recovered := false }] ∧ V H lim w r v) (h : DeferOk P T G g cs fn B out rows' r X) :
  Leaves P fn a.tmps (SpecR H0 lim0 w0 out rows') [{ target := .fn (.func g) vs.toArray, args := #[] }] u w := by
 obtain ⟨L, args', r', rowsL, rowsL', rows1, rows2, env', hL, hin, hr', hrows, ⟨hen, hlen, hsp⟩, hout, henv, hk1, hres⟩ := h
 have hvs : Vs (HL L H) lim w args' vs := Vs.sub (Fr.refl (fun _ => False) lim w) (sIn_ok hR.rows).1 (sIn_ok hR.rows).2 _ _ _ hin hcs
 have hmode : ModeOk (HL L H) lim w r' u := by
  rcases hu with ⟨rfl, hu⟩ | ⟨v, hu, hv⟩
  ·simp only [PV.sub, Option.some.injEq] at hr'
   exact .inl ⟨hr'.symm, hu⟩
  exact .inr ⟨v, hu, V.sub (Fr.refl (fun _ => False) lim w) (sIn_ok hR.rows).1 (sIn_ok hR.rows).2 _ _ _ hr' hv⟩
 have hcalls := hsp (HL L H) lim w vs u (rows_pick hR.rows hL hrows) (hR.glob.sub Bl_HL) hvs hmode
 refine leaves_cons (f := g) (args := vs.toArray) ?_ ?_ (hcalls.mono ?_)
 ·rcases hu with ⟨_, rfl⟩ | ⟨v, rfl, _⟩ <;> simp
 ·have := hen vs.toArray w
  simpa [invoke] using this
 intro e u' w' ⟨⟨v, he⟩, hset, H1, lim1, c1, c2, c3, c4⟩
 subst he
 simp only
 rw [hset]
 obtain ⟨hnx, _⟩ := call_back (p := .tup []) (p' := .tup []) hR hL hrows hlen henv hk1 hout c1 c2 c3 c4
 have hR2 := hnx.rep
 have lk2 := lk.trans hnx.lk
 obtain ⟨ps, L2, ps', ps'', q1, q2, q3, q4, q5, q6, q7⟩ := hres
 obtain ⟨us, r1, r2⟩ := results_run (P := P) hT hR2 q1
 have lk3 := lk2.trans (pick_lk (H := HB L X.rows.length H H1) (lim := lim1) (w := w') q2)
 have r3 := Vs.sub (Fr.refl (fun _ => False) lim1 w') (sIn_ok hR2.rows).1 (sIn_ok hR2.rows).2 _ _ _ q4 r2
 have hptr : ∀ id v, stay v = true → H0 id = some v → HL L2 (HB L X.rows.length H H1) id = H0 id := fun id v hst hq => by
  rcases Nat.lt_or_ge id B with hlt | hlt
  ·exact lk3.ptr id v hlt hst hq
  rw [hn id hlt] at hq; cases hq
 simp only [Leaves]
 exact ⟨_, r1, _, lim1, rows_pick hR2.rows q3 q5, lk3.fr, hptr, lk3.blocks, by subst q7; exact ⟨_, rfl, resOf_V (q6.sound r3)⟩⟩

/-- Boxes stay where they are. -/
def boxesB (B : Nat) : List PV → Bool
 | [] => true
 | .box i _ :: r => match Nat.blt i B with
  | true => boxesB B r
  | false => false
 | _ :: _ => false
theorem boxes_stay (lk : Lk B H0 lim0 w0 H lim w) : ∀ {cs : List PV} {vs : List Value}, boxesB B cs = true → Vs H0 lim0 w0 cs vs → Vs H lim w cs vs
 | [], _, _, hv => hv
 | .box i o :: r, vs, hb, hv => by
  simp only [boxesB] at hb
  split at hb
  ·rename_i hi
   have hlt : i < B := by simpa [Nat.blt_eq] using hi
   simp only [Vs, V] at hv ⊢
   obtain ⟨_, us, rfl, ⟨b, h1, rfl⟩, h2⟩ := hv
   exact ⟨_, us, rfl, ⟨b, (lk.ptr i _ hlt rfl h1).trans h1, rfl⟩, boxes_stay lk hb h2⟩
  cases hb
theorem Lk.narrow {B' : Nat} (h : Lk B H lim w H' lim' w') (hB : B' ≤ B) : Lk B' H lim w H' lim' w' := ⟨h.fr, fun id v hid => h.ptr id v (Nat.lt_of_lt_of_le hid hB), h.blocks⟩

/-- The ends of a body that has deferred a closure. -/
theorem end_defer (hT : TabOk P T) {g : FuncId} {cs : List PV} {vs : List Value} {fn : Func} {out : Out} {rows' : List Row} (hn : ∀ i, B ≤ i → H0 i = none) (hBB : B ≤ B1) (lk1 : Lk B H0 lim0 w0 H1 lim1 w1) (hcs : Vs H1 lim1 w1 cs vs) (hb : boxesB B1 cs = true)
  (h : DeferOk P T G g cs fn B out rows' (.d (.s .nilIface)) X) : EndOk [{ target := .fn (.func g) vs.toArray, args := #[] }] G N B1 H1 lim1 w1 (bodyPostD P fn (SpecR H0 lim0 w0 out rows')) X := by
 intro H lim a w hR lk
 simp only [bodyPostD]
 rw [hR.defers]
 exact leaves_of hT hn hR (lk1.trans (lk.narrow hBB)) (boxes_stay lk hb hcs) (.inl ⟨rfl, rfl⟩) h
theorem spec_of_gw {f : FuncId} {fn : Func} {c : Code} {args : List PV} {rows rows' : List Row} {out : Out} (hf : P.funcs[f]? = some fn) (hb : fn.body = some c) (hname : (fn.name == "runtime.NumGoroutine") = false)
  (hlen : rows.length ≤ rows'.length) (hN : N = args.length + (fn.ntmps - args.length))
  (h : ∀ (H0 : Nat → Option Value) (lim0 : Nat → Nat) (w0 : World), (∀ i, rows.length ≤ i → H0 i = none) → GW [] P G N rows.length H0 lim0 w0 c (bodyPostD P fn (SpecR H0 lim0 w0 out rows')) ⟨argEnv 0 args, rows⟩) : Spec P G f args rows out rows' := by
 refine ⟨fun av w => ?_, hlen, fun H lim w vs hrows hglob hvs => ?_⟩
 ·have hne : ¬ fn.name = "runtime.NumGoroutine" := by simpa using hname
  simp [callFunc, hf, hne, hb, program, Sem.run]
 have hvl : vs.length = args.length := Vs_length hvs
 refine calls_of_wp_defers hf hb (h H lim w (fun i hi => hrows.dom i hi) H lim _ w ⟨fun j p hj => ?_, hrows, hglob, rfl, ?_⟩ Lk.refl)
 ·obtain ⟨_, hj⟩ := argEnv_look hj
  obtain ⟨v, h1, h2⟩ := Vs_get hvs hj
  simp only [Nat.sub_zero] at h1
  have hlt := (List.getElem?_eq_some_iff.1 h1).1
  refine ⟨by omega, ?_⟩
  have : ((vs.toArray ++ Array.replicate (fn.ntmps - vs.toArray.size) undef).getD j undef) = v := by
   rw [Array.getD_eq_getD_getElem?, Array.getElem?_append_left (by simpa using hlt)]
   simp [h1]
  rw [this]
  exact h2
 simp [hN, hvl]
end
end Go.Abs
end
section
namespace Go.Abs
open Go Go.Proofs
attribute [local irreducible] aCall AWp Sub Spec GW DSpec EndOk PanOk
theorem read1_nil (G : Glob) (x0 x1 x2 x3 e : Data) : DSpec Tryz.prog G 54 [.box 0 0, .box 1 0] [.box 28 [.d x0, .d x1, .d x2, .d x3], .box 30 [.d e]] (.d (.s .nilIface)) [.box 28 [.d x0, .d x1, .d x2, .d x3], .box 30 [.d e]] := by
 refine dspec_of_awp TT_ok (N := 13) (fn := Tryz.f54) (d0 := 5) Tryz.func54 rfl (by rfl) rfl (Nat.le_refl _) rfl rfl rfl rfl rfl rfl rfl ?_; intro pan K hK; refine hK _ ?_; clear hK K pan; refine awp_norm [0, 1, 2, 3] rfl rfl ?_; refine rgs fun pan K hp hK => ?_; refine hK _ (aN [0, 1, 2, 9] rfl rfl ?_); clear hK hp K pan; refine awp_cond rfl ?_; refine awp_skip ?_; exact ⟨[0, 1], rfl, rfl, rfl⟩
section
variable (t : Nat → TypeId) (u : Nat → Value)
/-- Where the reader begins. -/
def p0 (s : ByteArray) : PS s := ⟨0, ⟨#[]⟩, Nat.zero_le _⟩
theorem read_ok (s : ByteArray) (hs4 : s.size ≤ 4000) (n : Nat) (hn' : n ≤ 1000000) (g : Pg) (q : PS s) (hr : progF s n (nx s (p0 s)) = .ok g q) : Spec Tryz.prog (GV t u) 16 [.d (str s)] [] (.ret (.tup [encP g, .d (.s .nilIface)])) [] := by
 have hs : s.size < 4611686018427387904 := by omega
 have sp := progP_spec t u s hs4 n hn' (nx s (p0 s)); rw [hr] at sp; obtain ⟨v, a, f, m⟩ := g; refine spec_of_gw (N := 18) Tryz.func16 rfl (by rfl) (Nat.le_refl _) rfl ?_; intro H0 lim0 w0 hn; refine gw_seq_region TT_ok fun pan K hp hK => ?_; refine hK _ ?_; clear hK hp K pan; refine gw_norm [0, 2, 3] rfl rfl ?_; refine gw_seq_awp ?_; refine rgs fun pan K hp hK => ?_; refine hK _ (aN [0, 2, 3, 7] rfl rfl ?_); clear hK hp K pan; refine awp_cond2 rfl (onB_intro (fun h1 => ?_) (fun h1 => ?_))
 ·have := of_decide_eq_true h1; omega
 refine awp_skip ?_; refine gw_norm [0, 2, 3] rfl rfl ?_; refine gw_seq_defer rfl rfl rfl rfl rfl rfl rfl rfl rfl fun H1 lim1 w1 vs lk1 hcs => ?_; refine gw_norm [0, 2, 3] rfl rfl ?_; refine gw_seq_region TT_ok fun pan K hp hK => ?_; refine hK _ ?_; clear hK hp K pan; refine gw_norm [2, 3, 4] rfl rfl ?_; refine gw_seq_region TT_ok fun pan K hp hK => ?_
 show aCall _ _ _ _ _ _ _
 refine aR [2] rfl rfl rfl (nextP_spec _ s (p0 s) hs) rfl rfl rfl rfl ?_; refine hK _ ?_; clear hK hp K pan; refine gw_norm [2, 3, 4] rfl rfl ?_; refine gw_seq_region TT_ok fun pan K hp hK => ?_
 show aCall _ _ _ _ _ _ _
 refine aR [2] rfl rfl rfl (sp nofun) rfl rfl rfl rfl ?_; refine hK _ ?_; clear hK hp K pan; refine gw_norm [2, 3] rfl rfl ?_; refine gw_ret (end_defer TT_ok hn (Nat.zero_le _) lk1 hcs rfl ?_); exact ⟨[0, 1], _, _, _, _, _, _, _, rfl, rfl, rfl, rfl, read1_nil _ _ _ _ _ _, rfl, rfl, rfl, _, [], _, [_, _], rfl, rfl, rfl, rfl, rfl, PWs.refl _, rfl⟩
end
end Go.Abs
end
section
namespace Go.Proofs
open Go Go.RowKit
set_option maxHeartbeats 1000000 in
set_option maxRecDepth 100000 in
theorem Tryz.copyCheck_used (b : Nat) (w : World) (h0 : w.cell? ⟨b, 0, none⟩ = some (.pointer (some ⟨b, 0, none⟩))) :
  Calls Tryz.prog 207 #[.pointer (some ⟨b, 0, none⟩)] w fun e w' => e = .returned (.tuple #[]) ∧ w' = w := by
 obtain ⟨j, hj, hjs⟩ := Option.map_eq_some_iff.1 (show (Tryz.prog.info? 165).map (·.size) = some 2 from by kernel_rfl); have t70 := Tryz.underlying162
 go_enter Tryz.func207, Tryz.ntmps207
 go_wp2
 rw [Lib.run_neq_ptr_same w _ Tryz.underlying162 hj]
 go_wp2
 go_end0
 exact ⟨rfl, rfl⟩
set_option maxHeartbeats 1000000 in
set_option maxRecDepth 100000 in
theorem Tryz.copyCheck_fresh (b : Nat) (w : World) (h0 : w.cell? ⟨b, 0, none⟩ = some (.pointer none)) (hsh : w.shape? b = some (167, 5)) (hfz : w.frozen? ⟨b, 0, none⟩ = false) :
  Calls Tryz.prog 207 #[.pointer (some ⟨b, 0, none⟩)] w fun e w' => e = .returned (.tuple #[]) ∧ w' = w.setCell ⟨b, 0, none⟩ (.pointer (some ⟨b, 0, none⟩)) := by
 obtain ⟨j, hj, hjs⟩ := Option.map_eq_some_iff.1 (show (Tryz.prog.info? 165).map (·.size) = some 2 from by kernel_rfl); have t70 := Tryz.underlying162; have t164 := Tryz.underlying306
 have lies : liesAt Tryz.prog Tryz.prog.depth 167 (5 / Tryz.prog.cellsOf 167) 0 165 1 = true := by kernel_rfl
 go_enter Tryz.func207, Tryz.ntmps207
 go_wp2
 rw [Lib.run_to_unsafe w ⟨b, 0, none⟩ Tryz.underlying162 Tryz.underlying306 hj (by rw [hjs]; decide) hsh (Nat.zero_lt_succ 4)]; simp only [Result.andThen]; rw [Oper.upon_value]
 go_wp2
 rw [run_callFunc_extern Tryz.func250 (by kernel_rfl) (by kernel_rfl) (by kernel_rfl) (e := Extern.AbiNoEscape.same) (by kernel_rfl)]; rw [Lib.run_noEscape]; simp only [Result.andThen]; rw [Oper.upon_value]
 go_wp2
 rw [Lib.run_from_unsafe w ⟨b, 0, none⟩ Tryz.underlying306 Tryz.underlying162 hj hsh lies]; simp only [Result.andThen]; rw [Oper.upon_value]
 go_wp2
 go_end0
 exact ⟨rfl, rfl⟩
end Go.Proofs
end
section
namespace Go.Proofs
open Go Go.RowKit
set_option maxHeartbeats 2000000 in
set_option maxRecDepth 100000 in
theorem Tryz.String_at (b g cap : Nat) (cs : Array Value) (ty : TypeId) (cur : Array Value) (l : List UInt8) (w : World) (h0 : l ≠ []) (hbk : w.heap[b]? = some (.cells cs ty (0, 0))) (hcs : cs[1]? = some (.slice (some ⟨g, 0, none⟩) l.length cap))
  (hg : w.heap[g]? = some (.cells cur 5 (0, 0))) (hnc : l.length ≤ cap) (hcm : cap ≤ maxLen) (hsz : cur.size = cap * 1) (htake : cur.toList.take (l.length * 1) = Lib.byteCells l) :
  Calls Tryz.prog 82 #[.pointer (some ⟨b, 0, none⟩)] w fun e w' => e = .returned (.string ⟨l.toArray⟩) ∧ ∃ k, w' = (w.drewN k).freeze ⟨g, 0, none⟩ l.length := by
 have hl0 : l.length ≠ 0 := by simpa using h0
 have c1 : w.drew.cell? ⟨b, 1, none⟩ = some (.slice (some ⟨g, 0, none⟩) l.length cap) := by
  have : w.drew.heap[b]? = some (.cells cs ty (0, 0)) := hbk; rw [Lib.cell_of_heap this]; exact hcs
 have hSD : (Builtin.unsafeSliceData_ #[163] 269 #[.slice (some ⟨g, 0, none⟩) l.length cap]).run Tryz.prog w.drew = .ok (.pointer (some ⟨g, 0, none⟩)) w.drew :=
  Lib.run_unsafeSliceData_row _ _ _ _ _ _ (by omega)
 have hUS : (Builtin.unsafeString_ #[269, 3] 9 #[.pointer (some ⟨g, 0, none⟩), .int .i64 l.length]).run Tryz.prog w.drew = .ok (.string ⟨l.toArray⟩) (w.drew.freeze ⟨g, 0, none⟩ l.length) := by
  refine Lib.run_unsafeString_row w.drew 269 3 9 5 Tryz.underlying269 (by kernel_rfl) g cur.size (by have hg' : w.drew.heap[g]? = some (.cells cur 5 (0, 0)) := hg; simp [World.shape?, hg']) l h0 (by omega) (by unfold maxLen at hcm; omega) ?_; intro j x hx; have hj : j < l.length := (List.getElem?_eq_some_iff.1 hx).1; have hg' : w.drew.heap[g]? = some (.cells cur 5 (0, 0)) := hg
  have e1 : (cur.toList.take (l.length * 1))[j]? = some (Value.int .u8 x.toNat) := by rw [htake]; simp [Lib.byteCells, hx]
  rw [List.getElem?_take_of_lt (by omega), Array.getElem?_toList] at e1; rw [Go.Abs.add_plain, Lib.cell_of_heap hg']
  simpa using e1
 have mixed := Tryz.lays169.mixed; have t165 := Tryz.underlying165; have a165 := Tryz.isAgg165; have z165 := Tryz.sizeOf165; have v165 := Tryz.zeroValue165; have u165 := run_underlying Tryz.underlying165; have t162 := Tryz.underlying162; have a162 := Tryz.isAgg162; have z162 := Tryz.sizeOf162; have v162 := Tryz.zeroValue162; have u162 := run_underlying Tryz.underlying162; have t163 := Tryz.underlying163; have a163 := Tryz.isAgg163; have z163 := Tryz.sizeOf163; have v163 := Tryz.zeroValue163; have u163 := run_underlying Tryz.underlying163; have t269 := Tryz.underlying269; have a269 := Tryz.isAgg269; have z269 := Tryz.sizeOf269; have v269 := Tryz.zeroValue269; have u269 := run_underlying Tryz.underlying269; have t3 := Tryz.underlying3; have a3 := Tryz.isAgg3; have z3 := Tryz.sizeOf3; have v3 := Tryz.zeroValue3; have u3 := run_underlying Tryz.underlying3; have t9 := Tryz.underlying9; have a9 := Tryz.isAgg9; have z9 := Tryz.sizeOf9; have v9 := Tryz.zeroValue9; have u9 := run_underlying Tryz.underlying9; have t5 := Tryz.underlying5; have a5 := Tryz.isAgg5; have z5 := Tryz.sizeOf5; have v5 := Tryz.zeroValue5; have u5 := run_underlying Tryz.underlying5
 go_enter Tryz.func82, Tryz.ntmps82
 go_wp2
 go_region_o
 all_goals (go_wp2; go_ret; exact ⟨rfl, 1, rfl⟩)
end Go.Proofs
namespace Go.Abs
open Go Go.Proofs
theorem enters {P : Program} {f : FuncId} {fn : Func} {c : Code} (hf : P.funcs[f]? = some fn) (hb : fn.body = some c) (hname : (fn.name == "runtime.NumGoroutine") = false) (av : Array Value) (w : World) : (callFunc f av).run P w = .ok (.enter f av) w := by
 have hne : ¬ fn.name = "runtime.NumGoroutine" := by simpa using hname
 simp [callFunc, hf, hne, hb, program, Sem.run]
def act0 : Act := { tmps := #[], defers := [] }
theorem rep0 {G : Glob} {H : Nat → Option Value} {lim : Nat → Nat} {w : World} {rows : List Row} (h : RowsOk H lim w rows) (hg : GlobOk G H lim w) : Rep [] G 0 H lim ⟨[], rows⟩ act0 w :=
 ⟨fun j p q => by simp [look] at q, h, hg, rfl, rfl⟩
theorem setCell_Fr {lim : Nat → Nat} {w : World} {b o : Nat} {ob : Obj} (_hb : w.heap[b]? = some ob) (hl : lim b = 0) (v : Value) : Fr (fun c => some b = some c) lim w lim (w.setCell ⟨b, o, none⟩ v) := by
 refine ⟨rfl, rfl, rfl, by simp [World.setCell], fun c _ => ⟨Nat.le_refl _, fun o' ho => ?_⟩, fun c _ hn => ⟨setCell_far v fun e => hn (by rw [e]), rfl⟩⟩
 have : c ≠ b := fun q => by rw [q, hl] at ho; omega
 exact World.cell?_of_block (w := w) (setCell_far v this)
/-- The writer's builder: its address is set. -/
theorem copy_used (G : Glob) (c : List PV) (xs : List (List Data)) : Spec Tryz.prog G 207 [.box 0 0] [.box 167 (.box 0 0 :: c), .acc 5 1 xs] (.ret (.tup [])) [.box 167 (.box 0 0 :: c), .acc 5 1 xs] := by
 refine ⟨enters Tryz.func207 (by rfl) (by rfl), Nat.le_refl _, fun H lim w vs hrows hglob hvs => ?_⟩; simp only [Vs, V] at hvs; obtain ⟨_, _, rfl, ⟨b, hb, rfl⟩, rfl⟩ := hvs; obtain ⟨b', cs, h1, h2, h3, h4⟩ := hrows.row 0 _ rfl; rw [hb] at h1; simp only [Option.some.injEq, Value.pointer.injEq, Addr.mk.injEq, and_true] at h1; subst h1; simp only [Vs, V] at h3; obtain ⟨_, us, rfl, ⟨b2, hb2, rfl⟩, h3⟩ := h3; rw [hb] at hb2; simp only [Option.some.injEq, Value.pointer.injEq, Addr.mk.injEq, and_true] at hb2; subst hb2; refine (Tryz.copyCheck_used b w (by rw [Lib.cell_of_heap h2]; rfl)).mono ?_; rintro e w' ⟨rfl, rfl⟩; exact ⟨H, lim, hrows, Fr.refl _ _ _, fun _ _ _ _ => rfl, fun _ q => .inl q, _, rfl, [], rfl, by simp only [Vs]⟩
theorem copy_fresh (G : Glob) (c : List PV) (hc : c.length = 4) (xs : List (List Data)) : Spec Tryz.prog G 207 [.box 0 0] [.box 167 (.d (.s (.pointer none)) :: c), .acc 5 1 xs] (.ret (.tup [])) [.box 167 (.box 0 0 :: c), .acc 5 1 xs] := by
 refine ⟨enters Tryz.func207 (by rfl) (by rfl), Nat.le_refl _, fun H lim w vs hrows hglob hvs => ?_⟩; simp only [Vs, V] at hvs; obtain ⟨_, _, rfl, ⟨b, hb, rfl⟩, rfl⟩ := hvs; obtain ⟨b', cs, h1, h2, h3, h4⟩ := hrows.row 0 _ rfl; rw [hb] at h1; simp only [Option.some.injEq, Value.pointer.injEq, Addr.mk.injEq, and_true] at h1; subst h1; simp only [Vs, V, VD] at h3; obtain ⟨_, us, rfl, rfl, h3⟩ := h3; have hlen := Vs_length h3; refine (Tryz.copyCheck_fresh b w (by rw [Lib.cell_of_heap h2]; rfl) (by simp [World.shape?, h2, hlen, hc]) (by simp [World.frozen?, h2])).mono ?_; rintro e w' ⟨rfl, rfl⟩
 have hbl : bl H 0 = some b := by simp [bl, hb, blk]
 have hF := setCell_Fr (o := 0) h2 h4 (.pointer (some ⟨b, 0, none⟩)); rw [← hbl] at hF; have hn := nx_set (D := []) (r' := .box 167 (.box 0 0 :: c)) (rep0 hrows hglob) (id := 0) rfl hF ⟨b, _, hb, by simpa using setCell_at h2 _, ?_, h4⟩
 ·exact ⟨H, lim, hn.rep.rows, hF.weaken fun _ q => ⟨0, q⟩, fun _ _ _ _ => rfl, fun _ q => .inl q, _, rfl, [], rfl, by simp only [Vs]⟩
 simp only [Vs, V]; exact ⟨_, us, rfl, ⟨b, hb, rfl⟩, h3.mono hF (fun _ _ q => q)⟩
theorem bts_byteCells {lim : Nat → Nat} {w : World} (s : ByteArray) {zs : List Value} (h : VDs lim w (bts s).flatten zs) : zs = Lib.byteCells s.data.toList := by
 unfold bts at h
 unfold Lib.byteCells
 revert zs h
 generalize s.data.toList = l
 induction l with
 | nil => intro zs h; simpa only [List.map_nil, List.flatten_nil, VDs] using h
 | cons c r ih =>
  intro zs h; simp only [List.map_cons, List.flatten_cons, List.cons_append, List.nil_append, VDs, VD] at h; obtain ⟨_, us, rfl, rfl, h⟩ := h; rw [List.map_cons, ih h]
theorem freeze_at {w : World} {g n : Nat} (b : Nat) (h : b ≠ g) : (w.freeze ⟨g, 0, none⟩ n).heap[b]? = w.heap[b]? := by
 unfold World.freeze
 split
 ·rfl
 simp only [Array.getElem?_modify]; rw [if_neg (fun e => h e.symm)]
theorem freeze_cell {w : World} {g n : Nat} (b o : Nat) : (w.freeze ⟨g, 0, none⟩ n).cell? ⟨b, o, none⟩ = w.cell? ⟨b, o, none⟩ := by
 unfold World.freeze
 split
 ·rfl
 simp only [World.cell?, Array.getElem?_modify]
 by_cases e : g = b
 ·rw [if_pos e]
  cases w.heap[b]? with
  | none => rfl
  | some ob => cases ob <;> rfl
 rw [if_neg e]
theorem string_spec (G : Glob) (x2 x3 x4 : Data) (s : ByteArray) (hs : s.data.toList ≠ []) :
  Spec Tryz.prog G 82 [.box 0 0] [.box 167 [.box 0 0, .acc 1, .d x2, .d x3, .d x4], .acc 5 1 (bts s)] (.ret (.d (str s))) [.box 167 [.box 0 0, .d (.sl 1 (bts s)), .d x2, .d x3, .d x4], .acc 5 1 []] := by
 refine ⟨enters Tryz.func82 (by rfl) (by rfl), Nat.le_refl _, fun H lim w vs hrows hglob hvs => ?_⟩; simp only [Vs, V] at hvs; obtain ⟨_, _, rfl, ⟨b, hb, rfl⟩, rfl⟩ := hvs; obtain ⟨b', cs, h1, h2, h3, h4⟩ := hrows.row 0 _ rfl; rw [hb] at h1; simp only [Option.some.injEq, Value.pointer.injEq, Addr.mk.injEq, and_true] at h1; subst h1; obtain ⟨hv, zs, g1, g2, g3, g4, g5, g6⟩ := hrows.row 1 _ rfl; have hz := bts_byteCells s g3; subst hz
 have hlen : s.data.toList.length = (bts s).length := by simp [bts]
 have h3' := h3; simp only [Vs, V] at h3; obtain ⟨u0, us, rfl, hu0, u1, us, rfl, hu1, u2, us, rfl, hu2, u3, us, rfl, hu3, u4, us, rfl, hu4, rfl⟩ := h3; rw [g1] at hu1; simp only [Option.some.injEq] at hu1; subst hu1; obtain ⟨q1, ⟨rfl, q2⟩ | ⟨g, cap, cur, rfl, q2, q3, q4, q5, q6, q7⟩⟩ := g2
 ·rw [← hlen] at q2
  exact absurd (List.eq_nil_of_length_eq_zero q2) hs
 have hbl0 : bl H 0 = some b := by simp [bl, hb, blk]
 have hbl1 : bl H 1 = some g := by simp [bl, g1, blk]
 have hbg : b ≠ g := fun e => hrows.apart 0 1 b (by decide) hbl0 (by rw [hbl1, e]); rw [← hlen] at q4 q7; refine (Tryz.String_at b g cap _ 167 cur s.data.toList w hs h2 (by simp [hlen]) q3 q4 q5 q6 q7).mono ?_; rintro e w' ⟨rfl, k, rfl⟩; have hlg : lim g = (bts s).length * 1 := g6 g rfl
 have hF : Fr (fun c => c = g) lim w lim ((w.drewN k).freeze ⟨g, 0, none⟩ s.data.toList.length) := by
  refine ⟨by unfold World.freeze; split <;> rfl, by unfold World.freeze; split <;> rfl, by unfold World.freeze; split <;> rfl, by unfold World.freeze; split <;> simp [World.drewN], fun c _ => ⟨Nat.le_refl _, fun o _ => ?_⟩, fun c _ hn => ⟨?_, rfl⟩⟩
  ·rw [freeze_cell]; rfl
  rw [freeze_at c hn]; rfl
 have hbs : ∀ id c, id ≠ 1 → bl H id = some c → c ≠ g := fun id c hid hc e => hrows.apart id 1 c hid hc (by rw [hbl1, e])
 have hcell : ∀ (j : Nat) (v : Value), (Lib.byteCells s.data.toList)[j]? = some v → w.cell? ⟨g, j, none⟩ = some v := by
  intro j v hj; rw [Lib.cell_of_heap q3, ← Array.getElem?_toList]; rw [← q7, List.getElem?_take] at hj; split at hj
  ·exact hj
  cases hj
 have hrow : ∀ (l : List UInt8) (o : Nat), o + l.length ≤ lim g → (∀ j v, (Lib.byteCells l)[j]? = some v → w.cell? ⟨g, o + j, none⟩ = some v) → VRow lim ((w.drewN k).freeze ⟨g, 0, none⟩ s.data.toList.length) g 1 o (l.map fun b => [.s (.int .u8 b.toNat)]) := by
  intro l
  induction l with
  | nil => intro o _ _; simp only [List.map_nil, VRow]
  | cons c r ih =>
   intro o ho hc; simp only [List.map_cons, VRow, VCells, and_true]; simp only [List.length_cons] at ho; refine ⟨rfl, ⟨_, by rw [freeze_cell]; exact hc 0 _ (by simp [Lib.byteCells]; rfl), by omega, rfl, by simp only [VD]⟩, ih (o + 1) (by omega) fun j v hj => ?_⟩; have := hc (j + 1) v (by simpa [Lib.byteCells] using hj)
   rwa [show o + 1 + j = o + (j + 1) by omega]
 refine ⟨upd H 1 (some (.slice none 0 0)), lim, ⟨fun id r hr => ?_, fun i j c hij hi hj => ?_, fun id hid => ?_⟩, hF.weaken fun c hc => ⟨1, by rw [hbl1, hc]⟩, fun id v hst hv => ?_, fun c ⟨id, hc⟩ => ?_, _, rfl, ?_⟩
 ·match id with
  | 0 =>
   simp only [List.getElem?_cons_zero, Option.some.injEq] at hr; subst hr; refine ⟨b, [u0, .slice (some ⟨g, 0, none⟩) (bts s).length cap, u2, u3, u4], by rw [upd_other _ _ (by decide)]; exact hb, by rw [freeze_at b hbg]; exact h2, ?_, h4⟩; simp only [Vs, V] at hu0 ⊢; obtain ⟨b2, hb2, rfl⟩ := hu0; refine ⟨_, _, rfl, ⟨b2, by rw [upd_other _ _ (by decide)]; exact hb2, rfl⟩, _, _, rfl, ?_, _, _, rfl, hu2.mono hF, _, _, rfl, hu3.mono hF, _, _, rfl, hu4.mono hF, rfl⟩; simp only [VD]; refine ⟨_, _, cap, rfl, rfl, by rw [← hlen]; exact q4, q5, fun _ => ⟨g, 0, rfl, hrow s.data.toList 0 (by rw [hlg, ← hlen]; omega) fun j v hj => by rw [Nat.zero_add]; exact hcell j v hj⟩⟩
  | 1 =>
   simp only [List.getElem?_cons_succ, List.getElem?_cons_zero, Option.some.injEq] at hr; subst hr; exact ⟨_, [], upd_same _ _ _, World.ownsRow_nil _ 0 5 1, by simp only [List.flatten_nil, VDs], (fun x hx => by cases hx), by decide, (fun b hb => by cases hb)⟩
  | id + 2 => simp at hr
 ·have f : ∀ i c, bl (upd H 1 (some (.slice none 0 0))) i = some c → bl H i = some c := by
   intro i c h
   by_cases e : i = 1
   ·subst e; simp [bl, upd_same, blk] at h
   simpa [bl, upd_other _ _ e] using h
  exact hrows.apart i j c hij (f i c hi) (f j c hj)
 ·rw [upd_other _ _ (by simp at hid; omega)]; exact hrows.dom id hid
 ·by_cases e : id = 1
  ·subst e; rw [g1] at hv; cases hv; cases hst
  rw [upd_other _ _ e]
 ·by_cases e : id = 1
  ·subst e; simp [bl, upd_same, blk] at hc
  exact .inl ⟨id, by simpa [bl, upd_other _ _ e] using hc⟩
 simp only [V, str, VD]
theorem strs_cell {lim : Nat → Nat} {w : World} {b : Nat} : ∀ (xs : List ByteArray) (o : Nat), VRow lim w b 1 o (strs xs) → ∀ (j : Nat) (x : ByteArray), xs[j]? = some x → w.cell? ⟨b, o + j, none⟩ = some (.string x)
 | [], _, _, j, x, hj => by simp at hj
 | s :: r, o, h, j, x, hj => by
  simp only [strs, List.map_cons, VRow, VCells, and_true] at h; obtain ⟨_, ⟨v, h1, _, _, h2⟩, h3⟩ := h
  cases j with
  | zero =>
   simp only [List.getElem?_cons_zero, Option.some.injEq] at hj; subst hj; simp only [str, VD] at h2; rw [Nat.add_zero, h1, h2]
  | succ j =>
   have := strs_cell r (o + 1) h3 j x (by simpa using hj)
   rwa [show o + (j + 1) = o + 1 + j by omega]
/-- strings.Join. -/
theorem join_spec (G : Glob) (xs : List ByteArray) (sep : ByteArray) (hl : (Lib.join (xs.map (·.data.toList)) sep.data.toList).length ≤ 140737488355328) (hn : xs.length ≤ 140737488355328) :
  Spec Tryz.prog G 78 [.d (.sl 1 (strs xs)), .d (str sep)] [] (.ret (.d (str ⟨(Lib.join (xs.map (·.data.toList)) sep.data.toList).toArray⟩))) [] := by
 refine spec_of_below Tryz.func78 rfl (by rfl) ?_; intro H lim W vs hnn hglob hvs; simp only [Vs, V, str, VD] at hvs; obtain ⟨_, _, rfl, ⟨A, n, c, rfl, rfl, hnc, hcm, hrow⟩, _, _, rfl, rfl, rfl⟩ := hvs
 have el : (strs xs).length = xs.length := by simp [strs]
 by_cases h0 : xs = []
 ·subst h0
  refine (Tryz.strings_Join_none A c sep W).mono ?_; rintro e w' ⟨rfl, rfl⟩; exact ⟨⟨_, rfl, fun lim' _ => by simp only [V, str, VD]; rfl⟩, RowKit.Below.refl _ _⟩
 have hne : xs.length ≠ 0 := fun e => h0 (List.eq_nil_of_length_eq_zero e); obtain ⟨b, o, rfl, hr⟩ := hrow (by rw [el]; exact hne); rw [el] at hnc; have hc := strs_cell xs o hr
 have hb : b < W.heap.size := by
  cases xs with
  | nil => exact absurd rfl h0
  | cons x r =>
   have := hc 0 x rfl
   rcases Nat.lt_or_ge b W.heap.size with h | h
   ·exact h
   simp [World.cell?, Array.getElem?_eq_none h] at this
 have := Tryz.strings_Join b o c xs sep W hc hb hn hnc hl; rw [← el] at this; refine this.mono ?_; rintro e w' ⟨rfl, hbl⟩; exact ⟨⟨_, rfl, fun lim' _ => by simp only [V, str, VD]⟩, hbl⟩
end Go.Abs
end
section
namespace Go.Abs
open Go Go.Proofs
attribute [local irreducible] aCall AWp Sub Spec
/-- What the writer holds. -/
structure WS where
 b : ByteArray
 inn : Nat
 ok : Bool
 n : Int
/-- The writer that has written, and the one that has not. -/
def wr (W : WS) : List Row := [.box 167 [.box 0 0, .acc 1, .d (num W.inn), .d (.s (.bool W.ok)), .d (num W.n)], .acc 5 1 (bts W.b)]
def wr0 (W : WS) : List Row := [.box 167 [.d (.s (.pointer none)), .acc 1, .d (num W.inn), .d (.s (.bool W.ok)), .d (num W.n)], .acc 5 1 (bts W.b)]
theorem bts_append (a b : ByteArray) : bts a ++ bts b = bts (a ++ b) := by simp [bts]
def mustW (W : WS) (c : Bool) : WS := ⟨W.b, W.inn, W.ok && c, W.n⟩
def lookW (W : WS) (d : Int) : WS := mustW ⟨W.b, W.inn, W.ok, IntKind.i64.wrap (W.n + 1)⟩ (decide (d ≤ 12) && decide (IntKind.i64.wrap (W.n + 1) ≤ 4000))
def putW (W : WS) (s : ByteArray) : WS := ⟨W.b ++ s, W.inn, W.ok, W.n⟩
def indent (n : Nat) : ByteArray := ⟨(Lib.repeatL (⟨#[32, 32]⟩ : ByteArray).data.toList n).toArray⟩
def lineW (W : WS) (s : ByteArray) : WS := putW W ((indent W.inn ++ s) ++ ⟨#[10]⟩)
theorem szlim {x y : ByteArray} {m k : Nat} (hx : x.size ≤ m) (hy : y.size ≤ k) (h : m + k ≤ 9223372036854775807) : x.size + y.size ≤ 9223372036854775807 := by omega
theorem sz_append {x y : ByteArray} {m k : Nat} (hx : x.size ≤ m) (hy : y.size ≤ k) : (x ++ y).size ≤ m + k := by rw [ByteArray.size_append]; omega
theorem indent_size (n : Nat) : (indent n).size = 2 * n := by
 show (Lib.repeatL _ n).toArray.size = _
 induction n with
 | zero => rfl
 | succ n ih => simp [Lib.repeatL] at ih ⊢; omega
theorem put_spec (G : Glob) (W : WS) (s : ByteArray) (hz : W.b.size + s.size ≤ 140737488355328) : Spec Tryz.prog G 148 [.box 0 0, .d (str s)] (wr W) (.ret (.tup [.d (num s.size), .d (.s .nilIface)])) (wr (putW W s)) := by
 unfold putW wr
 rw [← bts_append]; refine spec_of_awp2 TT_ok (N := 19) Tryz.func148 rfl (by rfl) (Nat.le_refl _) rfl ?_; refine rgs fun E K J O => ?_; refine O _ (aN [0, 1] rfl rfl ?_); clear O J K E; refine rgs fun E K J O => ?_; show aCall _ _ _ _ _ _ _; refine aR [0, 1] rfl rfl rfl (copy_used G _ _) rfl rfl rfl rfl ?_; refine O _ (aN [0, 1] rfl rfl ?_); clear O J K E; refine rgs fun E K J O => ?_; refine And.intro (by rw [bts_length]; exact hz) ?_; refine O _ (aN [1] rfl rfl ?_); clear O J K E; refine rgs fun E K J O => ?_; refine O _ (aN [4, 5] rfl rfl ?_); clear O J K E; refine awp_ret ?_; exact ⟨_, [0, 1], _, _, rfl, rfl, rfl, rfl, rfl, PWs.refl _, rfl⟩
theorem must_spec (G : Glob) (W : WS) (c : Bool) : Spec Tryz.prog G 76 [.box 0 0, .d (.s (.bool c))] (wr W) (.ret (.tup [])) (wr (mustW W c)) := by
 obtain ⟨V', hG⟩ : ∃ r, mustW W c = r := ⟨_, rfl⟩; rw [hG]; refine spec_of_awp2 TT_ok (N := 14) Tryz.func76 rfl (by rfl) (Nat.le_refl _) rfl ?_; refine rgn fun E K J O => ?_; refine onB_intro (fun h1 => ?_) (fun h1 => ?_)
 ·refine O _ ?_; clear O J K E
  simp only [mustW, h1, Bool.true_and] at hG; subst hG; exact ⟨_, [0, 1], _, _, rfl, rfl, rfl, rfl, rfl, PWs.refl _, rfl⟩
 refine O _ ?_; clear O J K E; simp only [mustW, h1, Bool.false_and] at hG; subst hG; exact ⟨_, [0, 1], _, _, rfl, rfl, rfl, rfl, rfl, PWs.refl _, rfl⟩
theorem name_spec (G : Glob) (W : WS) (s : ByteArray) (hs : s.size < 4611686018427387904) : Spec Tryz.prog G 75 [.box 0 0, .d (str s)] (wr W) (.ret (.d (str s))) (wr (mustW W (isNameF s))) := by
 refine spec_of_awp2 TT_ok (N := 10) Tryz.func75 rfl (by rfl) (Nat.le_refl _) rfl ?_; refine rgs fun E K J O => ?_; refine O _ (aN [0, 1] rfl rfl ?_); clear O J K E; refine rgs fun E K J O => ?_; show aCall _ _ _ _ _ _ _; refine aR [] rfl rfl rfl (isName_spec G s hs) rfl rfl rfl rfl ?_
 show aCall _ _ _ _ _ _ _
 refine aR [0, 1] rfl rfl rfl (must_spec G W _) rfl rfl rfl rfl ?_; refine O _ (aN [1] rfl rfl ?_); clear O J K E; refine rgs fun E K J O => ?_; refine O _ (aN [4] rfl rfl ?_); clear O J K E; refine awp_ret ?_; exact ⟨_, [0, 1], _, _, rfl, rfl, rfl, rfl, rfl, PWs.refl _, rfl⟩
def p74_0 : Plan := (.take 0 (.take 1 (.take 2 (.take 3 (.take 4 (.take 5 (.load 6 (.take 8 (.one 7 (.take 9 (.take 10 (.one 11 .done))))))))))))
theorem line_spec (G : Glob) (W : WS) (s : ByteArray) (hi : W.inn ≤ 1073741824) (hs : s.size ≤ 1073741824) (hb : W.b.size ≤ 70368744177664) : Spec Tryz.prog G 74 [.box 0 0, .d (str s)] (wr W) (.ret (.tup [])) (wr (lineW W s)) := by
 have hx : (indent W.inn).size ≤ 2147483648 := by rw [indent_size]; omega
 have hz : W.b.size + ((indent W.inn ++ s) ++ ⟨#[10]⟩).size ≤ 140737488355328 := by
  rw [ByteArray.size_append, ByteArray.size_append]; have : (⟨#[10]⟩ : ByteArray).size = 1 := rfl; omega
 unfold indent at hx
 refine spec_of_awp2 TT_ok (N := 16) Tryz.func74 rfl (by rfl) (Nat.le_refl _) rfl ?_; refine (awp_draw TT_ok mixed p74_0 [7, 11] (fun _ => true) (by kernel_rfl) fun E K J O => ?_)
 show aCall _ _ _ _ _ _ _
 refine aR [] rfl rfl rfl (repeat_spec G ⟨#[32, 32]⟩ W.inn (by show 2 * W.inn ≤ _; omega) (by omega)) rfl rfl rfl rfl ?_; refine And.intro (szlim (by repeat' (first | assumption | apply sz_append | exact Nat.le_refl _)) (by repeat' (first | assumption | apply sz_append | exact Nat.le_refl _)) (by decide)) ?_; refine And.intro (szlim (by repeat' (first | assumption | apply sz_append | exact Nat.le_refl _)) (by repeat' (first | assumption | apply sz_append | exact Nat.le_refl _)) (by decide)) ?_
 show aCall _ _ _ _ _ _ _
 refine aR [0, 1] rfl rfl rfl (put_spec G W _ hz) rfl rfl rfl rfl ?_; refine O _ ?_; clear O J K E; exact ⟨_, [0, 1], _, _, rfl, rfl, rfl, rfl, rfl, PWs.refl _, rfl⟩
theorem put_spec0 (G : Glob) (W : WS) (s : ByteArray) (hz : W.b.size + s.size ≤ 140737488355328) : Spec Tryz.prog G 148 [.box 0 0, .d (str s)] (wr0 W) (.ret (.tup [.d (num s.size), .d (.s .nilIface)])) (wr (putW W s)) := by
 unfold putW wr
 rw [← bts_append]; refine spec_of_awp2 TT_ok (N := 19) Tryz.func148 rfl (by rfl) (Nat.le_refl _) rfl ?_; refine rgs fun E K J O => ?_; refine O _ (aN [0, 1] rfl rfl ?_); clear O J K E; refine rgs fun E K J O => ?_; show aCall _ _ _ _ _ _ _; refine aR [0, 1] rfl rfl rfl (copy_fresh G _ rfl _) rfl rfl rfl rfl ?_; refine O _ (aN [0, 1] rfl rfl ?_); clear O J K E; refine rgs fun E K J O => ?_; refine And.intro (by rw [bts_length]; exact hz) ?_; refine O _ (aN [1] rfl rfl ?_); clear O J K E; refine rgs fun E K J O => ?_; refine O _ (aN [4, 5] rfl rfl ?_); clear O J K E; refine awp_ret ?_; exact ⟨_, [0, 1], _, _, rfl, rfl, rfl, rfl, rfl, PWs.refl _, rfl⟩
theorem must_spec0 (G : Glob) (W : WS) (c : Bool) : Spec Tryz.prog G 76 [.box 0 0, .d (.s (.bool c))] (wr0 W) (.ret (.tup [])) (wr0 (mustW W c)) := by
 obtain ⟨V', hG⟩ : ∃ r, mustW W c = r := ⟨_, rfl⟩; rw [hG]; refine spec_of_awp2 TT_ok (N := 14) Tryz.func76 rfl (by rfl) (Nat.le_refl _) rfl ?_; refine rgn fun E K J O => ?_; refine onB_intro (fun h1 => ?_) (fun h1 => ?_)
 ·refine O _ ?_; clear O J K E
  simp only [mustW, h1, Bool.true_and] at hG; subst hG; exact ⟨_, [0, 1], _, _, rfl, rfl, rfl, rfl, rfl, PWs.refl _, rfl⟩
 refine O _ ?_; clear O J K E; simp only [mustW, h1, Bool.false_and] at hG; subst hG; exact ⟨_, [0, 1], _, _, rfl, rfl, rfl, rfl, rfl, PWs.refl _, rfl⟩
theorem name_spec0 (G : Glob) (W : WS) (s : ByteArray) (hs : s.size < 4611686018427387904) : Spec Tryz.prog G 75 [.box 0 0, .d (str s)] (wr0 W) (.ret (.d (str s))) (wr0 (mustW W (isNameF s))) := by
 refine spec_of_awp2 TT_ok (N := 10) Tryz.func75 rfl (by rfl) (Nat.le_refl _) rfl ?_; refine rgs fun E K J O => ?_; refine O _ (aN [0, 1] rfl rfl ?_); clear O J K E; refine rgs fun E K J O => ?_; show aCall _ _ _ _ _ _ _; refine aR [] rfl rfl rfl (isName_spec G s hs) rfl rfl rfl rfl ?_
 show aCall _ _ _ _ _ _ _
 refine aR [0, 1] rfl rfl rfl (must_spec0 G W _) rfl rfl rfl rfl ?_; refine O _ (aN [1] rfl rfl ?_); clear O J K E; refine rgs fun E K J O => ?_; refine O _ (aN [4] rfl rfl ?_); clear O J K E; refine awp_ret ?_; exact ⟨_, [0, 1], _, _, rfl, rfl, rfl, rfl, rfl, PWs.refl _, rfl⟩
theorem line_spec0 (G : Glob) (W : WS) (s : ByteArray) (hi : W.inn ≤ 1073741824) (hs : s.size ≤ 1073741824) (hb : W.b.size ≤ 70368744177664) : Spec Tryz.prog G 74 [.box 0 0, .d (str s)] (wr0 W) (.ret (.tup [])) (wr (lineW W s)) := by
 have hx : (indent W.inn).size ≤ 2147483648 := by rw [indent_size]; omega
 have hz : W.b.size + ((indent W.inn ++ s) ++ ⟨#[10]⟩).size ≤ 140737488355328 := by
  rw [ByteArray.size_append, ByteArray.size_append]; have : (⟨#[10]⟩ : ByteArray).size = 1 := rfl; omega
 unfold indent at hx
 refine spec_of_awp2 TT_ok (N := 16) Tryz.func74 rfl (by rfl) (Nat.le_refl _) rfl ?_; refine (awp_draw TT_ok mixed p74_0 [7, 11] (fun _ => true) (by kernel_rfl) fun E K J O => ?_)
 show aCall _ _ _ _ _ _ _
 refine aR [] rfl rfl rfl (repeat_spec G ⟨#[32, 32]⟩ W.inn (by show 2 * W.inn ≤ _; omega) (by omega)) rfl rfl rfl rfl ?_; refine And.intro (szlim (by repeat' (first | assumption | apply sz_append | exact Nat.le_refl _)) (by repeat' (first | assumption | apply sz_append | exact Nat.le_refl _)) (by decide)) ?_; refine And.intro (szlim (by repeat' (first | assumption | apply sz_append | exact Nat.le_refl _)) (by repeat' (first | assumption | apply sz_append | exact Nat.le_refl _)) (by decide)) ?_
 show aCall _ _ _ _ _ _ _
 refine aR [0, 1] rfl rfl rfl (put_spec0 G W _ hz) rfl rfl rfl rfl ?_; refine O _ ?_; clear O J K E; exact ⟨_, [0, 1], _, _, rfl, rfl, rfl, rfl, rfl, PWs.refl _, rfl⟩
theorem look_spec (G : Glob) (W : WS) (d : Int) : Spec Tryz.prog G 153 [.box 0 0, .d (num d)] (wr W) (.ret (.d (.s (.bool (lookW W d).ok)))) (wr (lookW W d)) := by
 obtain ⟨V', hG⟩ : ∃ r, lookW W d = r := ⟨_, rfl⟩; rw [hG]; refine spec_of_awp2 TT_ok (N := 27) Tryz.func153 rfl (by rfl) (Nat.le_refl _) rfl ?_; refine rgs fun E K J O => ?_; refine O _ (aN [0, 1] rfl rfl ?_); clear O J K E; refine rgs fun E K J O => ?_; refine O _ (aN [0, 1] rfl rfl ?_); clear O J K E; refine rgs fun E K J O => ?_; refine onB_intro (fun h1 => ?_) (fun h1 => ?_)
 ·show aCall _ _ _ _ _ _ _
  refine aR [0, 1] rfl rfl rfl (must_spec G ⟨W.b, W.inn, W.ok, IntKind.i64.wrap (W.n + 1)⟩ _) rfl rfl rfl rfl ?_; refine O _ (aN [0] rfl rfl ?_); clear O J K E; refine rgs fun E K J O => ?_; refine O _ (aN [4] rfl rfl ?_); clear O J K E; refine awp_ret ?_; simp only [lookW, mustW, h1, Bool.true_and] at hG; subst hG; exact ⟨_, [0, 1], _, _, rfl, rfl, rfl, rfl, rfl, PWs.refl _, rfl⟩
 show aCall _ _ _ _ _ _ _
 refine aR [0, 1] rfl rfl rfl (must_spec G ⟨W.b, W.inn, W.ok, IntKind.i64.wrap (W.n + 1)⟩ _) rfl rfl rfl rfl ?_; refine O _ (aN [0] rfl rfl ?_); clear O J K E; refine rgs fun E K J O => ?_; refine O _ (aN [4] rfl rfl ?_); clear O J K E; refine awp_ret ?_; simp only [lookW, mustW, h1, Bool.false_and] at hG; subst hG; exact ⟨_, [0, 1], _, _, rfl, rfl, rfl, rfl, rfl, PWs.refl _, rfl⟩
end Go.Abs
end
