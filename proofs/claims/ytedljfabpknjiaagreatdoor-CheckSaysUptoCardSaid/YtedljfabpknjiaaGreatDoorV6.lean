/- Texts of this proof, joined: AbsPC, AbsPD, AbsPE, AbsPF. -/
import Derived.Test.YtedljfabpknjiaaGreatDoorV5
section
namespace Go.Abs
open Go Go.Proofs
attribute [local irreducible] aCall AWp Sub Spec
mutual
def factorF (s : ByteArray) : Nat → Int → PS s → R s Ex
 | 0, _, _ => .out
 | n + 1, d, p => match eqW p.w ⟨#[45]⟩ with
  | true => (deepF s d p).bind fun d1 q => (factorF s n d1 (nx s q)).bind fun e q => .ok (.mk ⟨#[110, 101, 103]⟩ 0 ⟨#[]⟩ [e]) q
  | false => match eqW p.w ⟨#[40]⟩ with
   | true => (deepF s d p).bind fun d1 q => (termF s n d1 (nx s q)).bind fun e q => (takeF s ⟨#[41]⟩ q).bind fun _ q => .ok e q
   | false => match (!eqW p.w ⟨#[]⟩ && isD (byteAt p.w 0)) with
    | true => (numberF s p).bind fun k q => .ok (.mk ⟨#[110, 117, 109]⟩ k ⟨#[]⟩ []) q
    | false => (nameF s p).bind fun m q => match eqW q.w ⟨#[91]⟩ with
     | true => (deepF s d q).bind fun d1 q => (termF s n d1 (nx s q)).bind fun e q => (takeF s ⟨#[93]⟩ q).bind fun _ q => .ok (.mk ⟨#[97, 116]⟩ 0 m [e]) q
     | false => .ok (.mk ⟨#[118, 97, 114]⟩ 0 m []) q
def productF (s : ByteArray) : Nat → Int → PS s → R s Ex
 | 0, _, _ => .out
 | n + 1, d, p => (factorF s n d p).bind fun e q => prodL s n d e q
def prodL (s : ByteArray) : Nat → Int → Ex → PS s → R s Ex
 | 0, _, _, _ => .out
 | n + 1, d, e, p => match (eqW p.w ⟨#[42]⟩ || eqW p.w ⟨#[47]⟩ || eqW p.w ⟨#[37]⟩) with
  | true => (factorF s n d (nx s p)).bind fun f q => prodL s n d (.mk p.w 0 ⟨#[]⟩ [e, f]) q
  | false => .ok e p
def termF (s : ByteArray) : Nat → Int → PS s → R s Ex
 | 0, _, _ => .out
 | n + 1, d, p => (productF s n d p).bind fun e q => termL s n d e q
def termL (s : ByteArray) : Nat → Int → Ex → PS s → R s Ex
 | 0, _, _, _ => .out
 | n + 1, d, e, p => match (eqW p.w ⟨#[43]⟩ || eqW p.w ⟨#[45]⟩) with
  | true => (productF s n d (nx s p)).bind fun f q => termL s n d (.mk p.w 0 ⟨#[]⟩ [e, f]) q
  | false => .ok e p
end
def zE : List PV := [.d (str ⟨#[]⟩), .d (num 0), .d (str ⟨#[]⟩), .d (.s (.slice none 0 0))]
def cE (op : ByteArray) (n : Int) (m : ByteArray) (l : List Ex) : List PV := [.d (str op), .d (num n), .d (str m), .d (.sl 4 (exs l))]
section
variable (t : Nat → TypeId) (u : Nat → Value)
def FacOk (s : ByteArray) (n : Nat) : Prop := ∀ (d : Int) (p : PS s), PSpec t u 246 [.box 0 0, .d (num d)] s p encE (factorF s n d p)
def ProdOk (s : ByteArray) (n : Nat) : Prop := ∀ (d : Int) (p : PS s), PSpec t u 198 [.box 0 0, .d (num d)] s p encE (productF s n d p)
def TermOk (s : ByteArray) (n : Nat) : Prop := ∀ (d : Int) (p : PS s), PSpec t u 140 [.box 0 0, .d (num d)] s p encE (termF s n d p)
def p198_5 : Plan := (.take 0 (.load 1 (.take 2 (.take 3 (.one 4 (.one 5 (.one 6 (.one 7 .done))))))))
theorem prod_step (s : ByteArray) (hs : s.size < 4611686018427387904) (n : Nat) (ih : ∀ m, m ≤ n → FacOk t u s m) : ProdOk t u s (n + 1) := by
 intro d p hne; obtain ⟨r, hG⟩ : ∃ r, productF s (n + 1) d p = r := ⟨_, rfl⟩; rw [hG] at hne ⊢
 refine spec_of_awp2 TT_ok (N := 43) Tryz.func198 rfl (by rfl) ((by cases r <;> simp [rowsR] at hne ⊢)) rfl ?_
 refine rgs fun E K J O => ?_; refine O _ (aN [0, 1, 4] rfl rfl ?_); clear O J K E; refine rgs fun E K J O => ?_; show aCall _ _ _ _ _ _ _; have sp1 := ih n (by omega) d p
 cases hr1 : factorF s n d p with
 | out =>
  simp only [productF, R.bind, hr1] at hG; exact absurd hG.symm hne
 | bad q1 c1 =>
  rw [hr1] at sp1; refine aP [0] rfl rfl rfl (sp1 nofun) rfl rfl rfl rfl ?_; refine J _ _ ?_; simp only [productF, R.bind, hr1] at hG; subst hG; exact ⟨[0, 2], _, rfl, rfl, rfl, rfl, rfl⟩
 | ok a1 q1 =>
  obtain ⟨o1, n1, m1, l1⟩ := a1; rw [hr1] at sp1; refine aR [0] rfl rfl rfl (sp1 nofun) rfl rfl rfl rfl ?_; refine O _ (aN [0, 1, 4, 5] rfl rfl ?_); clear O J K E; refine awp_seq ?_; refine awp_block ?_; simp only [productF, R.bind, hr1] at hG; clear hr1 sp1; refine awp_loop (fun k Y => ∃ o1 n1 m1 l1 q, k ≤ n ∧ prodL s k d (.mk o1 n1 m1 l1) q = r ∧ Y = ⟨[(0, .box 0 0), (1, .d (num d)), (4, .box 1 0), (5, .box 2 0)], [rd s q, .box 157 zE, .box 157 (cE o1 n1 m1 l1)]⟩) (n) (⟨_, _, _, _, _, Nat.le_refl _, hG, rfl⟩) ?_; clear hG q1 o1 n1 m1 l1; rintro k Y ⟨o1, n1, m1, l1, q, hk, hG, rfl⟩
  cases k with
  | zero => simp only [prodL] at hG; exact absurd hG.symm hne
  | succ m =>
   refine awp_seq ?_; refine rgs fun E K J O => ?_; refine onB_intro (fun h1 => ?_) (fun h1 => ?_)
   ·refine O _ (aN [0, 1, 4, 5, 28] rfl rfl ?_); clear O J K E; refine awp_cond rfl ?_; refine awp_skip ?_; refine awp_block ?_; refine rgs fun E K J O => ?_; refine O _ (aN [0, 1, 4, 5, 6] rfl rfl ?_); clear O J K E; refine rgs fun E K J O => ?_; show aCall _ _ _ _ _ _ _
    refine aR [0] rfl rfl rfl (nextP_spec _ s q hs) rfl rfl rfl rfl ?_; refine O _ (aN [0, 1, 4, 5, 6] rfl rfl ?_); clear O J K E; refine (awp_draw TT_ok mixed p198_5 [7] (fun i => Nat.beq i 2) (by kernel_rfl) fun E K J O => ?_)
    show aCall _ _ _ _ _ _ _
    have sp2 := ih m (by omega) d (nx s q)
    cases hr2 : factorF s m d (nx s q) with
    | out =>
     simp only [prodL, eqW, bz, R.bind, h1, hr2] at hG; exact absurd hG.symm hne
    | bad q2 c2 =>
     rw [hr2] at sp2; refine aP [0] rfl rfl rfl (sp2 nofun) rfl rfl rfl rfl ?_; refine J _ _ ?_; simp only [prodL, eqW, bz, R.bind, h1, hr2] at hG; subst hG; exact ⟨[0, 3], _, rfl, rfl, rfl, rfl, rfl⟩
    | ok a2 q2 =>
     obtain ⟨o2, n2, m2, l2⟩ := a2; rw [hr2] at sp2; refine aR [0] rfl rfl rfl (sp2 nofun) rfl rfl rfl rfl ?_; refine O _ ?_; clear O J K E; simp only [prodL, eqW, bz, R.bind, h1, hr2] at hG; exact ⟨m, Nat.lt_succ_self m, _, sub_norm (slots := [0, 1, 4, 5]) rfl rfl, _, _, _, _, _, by omega, hG, rfl⟩
   refine onB_intro (fun h2 => ?_) (fun h2 => ?_)
   ·refine O _ (aN [0, 1, 4, 5, 28] rfl rfl ?_); clear O J K E; refine awp_cond rfl ?_; refine awp_skip ?_; refine awp_block ?_; refine rgs fun E K J O => ?_; refine O _ (aN [0, 1, 4, 5, 6] rfl rfl ?_); clear O J K E; refine rgs fun E K J O => ?_; show aCall _ _ _ _ _ _ _
    refine aR [0] rfl rfl rfl (nextP_spec _ s q hs) rfl rfl rfl rfl ?_; refine O _ (aN [0, 1, 4, 5, 6] rfl rfl ?_); clear O J K E; refine (awp_draw TT_ok mixed p198_5 [7] (fun i => Nat.beq i 2) (by kernel_rfl) fun E K J O => ?_)
    show aCall _ _ _ _ _ _ _
    have sp2 := ih m (by omega) d (nx s q)
    cases hr2 : factorF s m d (nx s q) with
    | out =>
     simp only [prodL, eqW, bz, R.bind, h1, h2, hr2] at hG; exact absurd hG.symm hne
    | bad q2 c2 =>
     rw [hr2] at sp2; refine aP [0] rfl rfl rfl (sp2 nofun) rfl rfl rfl rfl ?_; refine J _ _ ?_; simp only [prodL, eqW, bz, R.bind, h1, h2, hr2] at hG; subst hG; exact ⟨[0, 3], _, rfl, rfl, rfl, rfl, rfl⟩
    | ok a2 q2 =>
     obtain ⟨o2, n2, m2, l2⟩ := a2; rw [hr2] at sp2; refine aR [0] rfl rfl rfl (sp2 nofun) rfl rfl rfl rfl ?_; refine O _ ?_; clear O J K E; simp only [prodL, eqW, bz, R.bind, h1, h2, hr2] at hG; exact ⟨m, Nat.lt_succ_self m, _, sub_norm (slots := [0, 1, 4, 5]) rfl rfl, _, _, _, _, _, by omega, hG, rfl⟩
   refine O _ (aN [0, 1, 4, 5, 28] rfl rfl ?_); clear O J K E; refine awp_cond2 rfl (onB_intro (fun h3 => ?_) (fun h3 => ?_))
   ·refine awp_skip ?_; refine awp_block ?_; refine rgs fun E K J O => ?_; refine O _ (aN [0, 1, 4, 5, 6] rfl rfl ?_); clear O J K E; refine rgs fun E K J O => ?_; show aCall _ _ _ _ _ _ _
    refine aR [0] rfl rfl rfl (nextP_spec _ s q hs) rfl rfl rfl rfl ?_; refine O _ (aN [0, 1, 4, 5, 6] rfl rfl ?_); clear O J K E; refine (awp_draw TT_ok mixed p198_5 [7] (fun i => Nat.beq i 2) (by kernel_rfl) fun E K J O => ?_)
    show aCall _ _ _ _ _ _ _
    have sp2 := ih m (by omega) d (nx s q)
    cases hr2 : factorF s m d (nx s q) with
    | out =>
     simp only [prodL, eqW, bz, R.bind, h1, h2, h3, hr2] at hG; exact absurd hG.symm hne
    | bad q2 c2 =>
     rw [hr2] at sp2; refine aP [0] rfl rfl rfl (sp2 nofun) rfl rfl rfl rfl ?_; refine J _ _ ?_; simp only [prodL, eqW, bz, R.bind, h1, h2, h3, hr2] at hG; subst hG; exact ⟨[0, 3], _, rfl, rfl, rfl, rfl, rfl⟩
    | ok a2 q2 =>
     obtain ⟨o2, n2, m2, l2⟩ := a2; rw [hr2] at sp2; refine aR [0] rfl rfl rfl (sp2 nofun) rfl rfl rfl rfl ?_; refine O _ ?_; clear O J K E; simp only [prodL, eqW, bz, R.bind, h1, h2, h3, hr2] at hG; exact ⟨m, Nat.lt_succ_self m, _, sub_norm (slots := [0, 1, 4, 5]) rfl rfl, _, _, _, _, _, by omega, hG, rfl⟩
   refine awp_exit ?_; refine rgs fun E K J O => ?_; refine O _ (aN [4] rfl rfl ?_); clear O J K E; refine awp_ret ?_; simp only [prodL, eqW, bz, h1, h2, h3] at hG; subst hG; exact ⟨_, [0], _, [encE _], rfl, rfl, rfl, rfl, rfl, (by first | exact PWs.refl _ | (refine PWs.cons (PW.d ?_) PWs.nil; repeat (first | exact DW.refl _ | refine DW.agg ?_ | refine DWs.cons ?_ ?_ | exact DWs.nil | exact DW.nil _))), rfl⟩
def p140_5 : Plan := (.take 0 (.load 1 (.take 2 (.take 3 (.one 4 (.one 5 (.one 6 (.one 7 .done))))))))
theorem term_step (s : ByteArray) (hs : s.size < 4611686018427387904) (n : Nat) (ih : ∀ m, m ≤ n → ProdOk t u s m) : TermOk t u s (n + 1) := by
 intro d p hne; obtain ⟨r, hG⟩ : ∃ r, termF s (n + 1) d p = r := ⟨_, rfl⟩; rw [hG] at hne ⊢
 refine spec_of_awp2 TT_ok (N := 36) Tryz.func140 rfl (by rfl) ((by cases r <;> simp [rowsR] at hne ⊢)) rfl ?_
 refine rgs fun E K J O => ?_; refine O _ (aN [0, 1, 4] rfl rfl ?_); clear O J K E; refine rgs fun E K J O => ?_; show aCall _ _ _ _ _ _ _; have sp1 := ih n (by omega) d p
 cases hr1 : productF s n d p with
 | out =>
  simp only [termF, R.bind, hr1] at hG; exact absurd hG.symm hne
 | bad q1 c1 =>
  rw [hr1] at sp1; refine aP [0] rfl rfl rfl (sp1 nofun) rfl rfl rfl rfl ?_; refine J _ _ ?_; simp only [termF, R.bind, hr1] at hG; subst hG; exact ⟨[0, 2], _, rfl, rfl, rfl, rfl, rfl⟩
 | ok a1 q1 =>
  obtain ⟨o1, n1, m1, l1⟩ := a1; rw [hr1] at sp1; refine aR [0] rfl rfl rfl (sp1 nofun) rfl rfl rfl rfl ?_; refine O _ (aN [0, 1, 4, 5] rfl rfl ?_); clear O J K E; refine awp_seq ?_; refine awp_block ?_; simp only [termF, R.bind, hr1] at hG; clear hr1 sp1; refine awp_loop (fun k Y => ∃ o1 n1 m1 l1 q, k ≤ n ∧ termL s k d (.mk o1 n1 m1 l1) q = r ∧ Y = ⟨[(0, .box 0 0), (1, .d (num d)), (4, .box 1 0), (5, .box 2 0)], [rd s q, .box 157 zE, .box 157 (cE o1 n1 m1 l1)]⟩) (n) (⟨_, _, _, _, _, Nat.le_refl _, hG, rfl⟩) ?_; clear hG q1 o1 n1 m1 l1; rintro k Y ⟨o1, n1, m1, l1, q, hk, hG, rfl⟩
  cases k with
  | zero => simp only [termL] at hG; exact absurd hG.symm hne
  | succ m =>
   refine awp_seq ?_; refine rgs fun E K J O => ?_; refine onB_intro (fun h1 => ?_) (fun h1 => ?_)
   ·refine O _ (aN [0, 1, 4, 5, 21] rfl rfl ?_); clear O J K E; refine awp_cond rfl ?_; refine awp_skip ?_; refine awp_block ?_; refine rgs fun E K J O => ?_; refine O _ (aN [0, 1, 4, 5, 6] rfl rfl ?_); clear O J K E; refine rgs fun E K J O => ?_; show aCall _ _ _ _ _ _ _
    refine aR [0] rfl rfl rfl (nextP_spec _ s q hs) rfl rfl rfl rfl ?_; refine O _ (aN [0, 1, 4, 5, 6] rfl rfl ?_); clear O J K E; refine (awp_draw TT_ok mixed p140_5 [7] (fun i => Nat.beq i 2) (by kernel_rfl) fun E K J O => ?_)
    show aCall _ _ _ _ _ _ _
    have sp2 := ih m (by omega) d (nx s q)
    cases hr2 : productF s m d (nx s q) with
    | out =>
     simp only [termL, eqW, bz, R.bind, h1, hr2] at hG; exact absurd hG.symm hne
    | bad q2 c2 =>
     rw [hr2] at sp2; refine aP [0] rfl rfl rfl (sp2 nofun) rfl rfl rfl rfl ?_; refine J _ _ ?_; simp only [termL, eqW, bz, R.bind, h1, hr2] at hG; subst hG; exact ⟨[0, 3], _, rfl, rfl, rfl, rfl, rfl⟩
    | ok a2 q2 =>
     obtain ⟨o2, n2, m2, l2⟩ := a2; rw [hr2] at sp2; refine aR [0] rfl rfl rfl (sp2 nofun) rfl rfl rfl rfl ?_; refine O _ ?_; clear O J K E; simp only [termL, eqW, bz, R.bind, h1, hr2] at hG; exact ⟨m, Nat.lt_succ_self m, _, sub_norm (slots := [0, 1, 4, 5]) rfl rfl, _, _, _, _, _, by omega, hG, rfl⟩
   refine O _ (aN [0, 1, 4, 5, 21] rfl rfl ?_); clear O J K E; refine awp_cond2 rfl (onB_intro (fun h2 => ?_) (fun h2 => ?_))
   ·refine awp_skip ?_; refine awp_block ?_; refine rgs fun E K J O => ?_; refine O _ (aN [0, 1, 4, 5, 6] rfl rfl ?_); clear O J K E; refine rgs fun E K J O => ?_; show aCall _ _ _ _ _ _ _
    refine aR [0] rfl rfl rfl (nextP_spec _ s q hs) rfl rfl rfl rfl ?_; refine O _ (aN [0, 1, 4, 5, 6] rfl rfl ?_); clear O J K E; refine (awp_draw TT_ok mixed p140_5 [7] (fun i => Nat.beq i 2) (by kernel_rfl) fun E K J O => ?_)
    show aCall _ _ _ _ _ _ _
    have sp2 := ih m (by omega) d (nx s q)
    cases hr2 : productF s m d (nx s q) with
    | out =>
     simp only [termL, eqW, bz, R.bind, h1, h2, hr2] at hG; exact absurd hG.symm hne
    | bad q2 c2 =>
     rw [hr2] at sp2; refine aP [0] rfl rfl rfl (sp2 nofun) rfl rfl rfl rfl ?_; refine J _ _ ?_; simp only [termL, eqW, bz, R.bind, h1, h2, hr2] at hG; subst hG; exact ⟨[0, 3], _, rfl, rfl, rfl, rfl, rfl⟩
    | ok a2 q2 =>
     obtain ⟨o2, n2, m2, l2⟩ := a2; rw [hr2] at sp2; refine aR [0] rfl rfl rfl (sp2 nofun) rfl rfl rfl rfl ?_; refine O _ ?_; clear O J K E; simp only [termL, eqW, bz, R.bind, h1, h2, hr2] at hG; exact ⟨m, Nat.lt_succ_self m, _, sub_norm (slots := [0, 1, 4, 5]) rfl rfl, _, _, _, _, _, by omega, hG, rfl⟩
   refine awp_exit ?_; refine rgs fun E K J O => ?_; refine O _ (aN [4] rfl rfl ?_); clear O J K E; refine awp_ret ?_; simp only [termL, eqW, bz, h1, h2] at hG; subst hG; exact ⟨_, [0], _, [encE _], rfl, rfl, rfl, rfl, rfl, (by first | exact PWs.refl _ | (refine PWs.cons (PW.d ?_) PWs.nil; repeat (first | exact DW.refl _ | refine DW.agg ?_ | refine DWs.cons ?_ ?_ | exact DWs.nil | exact DW.nil _))), rfl⟩
def p246_17 : Plan := (.take 0 (.load 1 (.take 2 (.take 3 (.one 4 (.one 5 (.one 6 (.one 7 .done))))))))
theorem fac_step (s : ByteArray) (hs4 : s.size ≤ 4000) (n : Nat) (ihF : ∀ m, m ≤ n → FacOk t u s m) (ihT : ∀ m, m ≤ n → TermOk t u s m) : FacOk t u s (n + 1) := by
 intro d p hne; obtain ⟨r, hG⟩ : ∃ r, factorF s (n + 1) d p = r := ⟨_, rfl⟩; rw [hG] at hne ⊢
 have hs : s.size < 4611686018427387904 := by omega
 refine spec_of_awp2 TT_ok (N := 83) Tryz.func246 rfl (by rfl) ((by cases r <;> simp [rowsR] at hne ⊢)) rfl ?_
 refine rgs fun E K J O => ?_; refine O _ (aN [0, 1, 4] rfl rfl ?_); clear O J K E; refine awp_seq ?_; refine awp_block ?_; refine rgs fun E K J O => ?_; refine O _ (aN [0, 1, 4, 10] rfl rfl ?_); clear O J K E; refine awp_cond2 rfl (onB_intro (fun h1 => ?_) (fun h1 => ?_))
 ·refine rgs fun E K J O => ?_; show aCall _ _ _ _ _ _ _
  have sp1 := deepP_spec t u s p d
  cases hr1 : deepF s d p with
  | out =>
   simp only [factorF, eqW, R.bind, h1, hr1] at hG; exact absurd hG.symm hne
  | bad q1 c1 =>
   rw [hr1] at sp1; refine aP [0] rfl rfl rfl (sp1 nofun) rfl rfl rfl rfl ?_; refine J _ _ ?_; simp only [factorF, eqW, R.bind, h1, hr1] at hG; subst hG; exact ⟨[0, 2], _, rfl, rfl, rfl, rfl, rfl⟩
  | ok a1 q1 =>
   rw [hr1] at sp1; refine aR [0] rfl rfl rfl (sp1 nofun) rfl rfl rfl rfl ?_; refine O _ (aN [0, 4, 5] rfl rfl ?_); clear O J K E; refine rgs fun E K J O => ?_; show aCall _ _ _ _ _ _ _; refine aR [0] rfl rfl rfl (nextP_spec _ s q1 hs) rfl rfl rfl rfl ?_; refine O _ (aN [0, 4, 5] rfl rfl ?_); clear O J K E; refine rgs fun E K J O => ?_; show aCall _ _ _ _ _ _ _; have sp2 := ihF n (by omega) a1 (nx s q1)
   cases hr2 : factorF s n a1 (nx s q1) with
   | out =>
    simp only [factorF, eqW, R.bind, h1, hr1, hr2] at hG; exact absurd hG.symm hne
   | bad q2 c2 =>
    rw [hr2] at sp2; refine aP [0] rfl rfl rfl (sp2 nofun) rfl rfl rfl rfl ?_; refine J _ _ ?_; simp only [factorF, eqW, R.bind, h1, hr1, hr2] at hG; subst hG; exact ⟨[0, 2], _, rfl, rfl, rfl, rfl, rfl⟩
   | ok a2 q2 =>
    obtain ⟨o2, n2, m2, l2⟩ := a2; rw [hr2] at sp2; refine aR [0] rfl rfl rfl (sp2 nofun) rfl rfl rfl rfl ?_; refine O _ (aN [4] rfl rfl ?_); clear O J K E; refine awp_ret ?_; simp only [factorF, eqW, R.bind, h1, hr1, hr2] at hG; subst hG; exact ⟨_, [0], _, [encE _], rfl, rfl, rfl, rfl, rfl, (by first | exact PWs.refl _ | (refine PWs.cons (PW.d ?_) PWs.nil; repeat (first | exact DW.refl _ | refine DW.agg ?_ | refine DWs.cons ?_ ?_ | exact DWs.nil | exact DW.nil _))), rfl⟩
 refine rgs fun E K J O => ?_; refine O _ (aN [0, 1, 4, 26] rfl rfl ?_); clear O J K E; refine awp_cond2 rfl (onB_intro (fun h2 => ?_) (fun h2 => ?_))
 ·refine rgs fun E K J O => ?_; show aCall _ _ _ _ _ _ _
  have sp1 := deepP_spec t u s p d
  cases hr1 : deepF s d p with
  | out =>
   simp only [factorF, eqW, R.bind, h1, h2, hr1] at hG; exact absurd hG.symm hne
  | bad q1 c1 =>
   rw [hr1] at sp1; refine aP [0] rfl rfl rfl (sp1 nofun) rfl rfl rfl rfl ?_; refine J _ _ ?_; simp only [factorF, eqW, R.bind, h1, h2, hr1] at hG; subst hG; exact ⟨[0, 2], _, rfl, rfl, rfl, rfl, rfl⟩
  | ok a1 q1 =>
   rw [hr1] at sp1; refine aR [0] rfl rfl rfl (sp1 nofun) rfl rfl rfl rfl ?_; refine O _ (aN [0, 4, 6] rfl rfl ?_); clear O J K E; refine rgs fun E K J O => ?_; show aCall _ _ _ _ _ _ _; refine aR [0] rfl rfl rfl (nextP_spec _ s q1 hs) rfl rfl rfl rfl ?_; refine O _ (aN [0, 4, 6] rfl rfl ?_); clear O J K E; refine rgs fun E K J O => ?_; show aCall _ _ _ _ _ _ _; have sp2 := ihT n (by omega) a1 (nx s q1)
   cases hr2 : termF s n a1 (nx s q1) with
   | out =>
    simp only [factorF, eqW, R.bind, h1, h2, hr1, hr2] at hG; exact absurd hG.symm hne
   | bad q2 c2 =>
    rw [hr2] at sp2; refine aP [0] rfl rfl rfl (sp2 nofun) rfl rfl rfl rfl ?_; refine J _ _ ?_; simp only [factorF, eqW, R.bind, h1, h2, hr1, hr2] at hG; subst hG; exact ⟨[0, 2], _, rfl, rfl, rfl, rfl, rfl⟩
   | ok a2 q2 =>
    obtain ⟨o2, n2, m2, l2⟩ := a2; rw [hr2] at sp2; refine aR [0] rfl rfl rfl (sp2 nofun) rfl rfl rfl rfl ?_; refine O _ (aN [0, 4, 7] rfl rfl ?_); clear O J K E; refine rgs fun E K J O => ?_; show aCall _ _ _ _ _ _ _; have sp3 := takeP_spec t u s ⟨#[41]⟩ q2 hs
    cases hr3 : takeF s ⟨#[41]⟩ q2 with
    | out =>
     simp only [factorF, eqW, R.bind, h1, h2, hr1, hr2, hr3] at hG; exact absurd hG.symm hne
    | bad q3 c3 =>
     rw [hr3] at sp3; refine aP [0] rfl rfl rfl (sp3 nofun) rfl rfl rfl rfl ?_; refine J _ _ ?_; simp only [factorF, eqW, R.bind, h1, h2, hr1, hr2, hr3] at hG; subst hG; exact ⟨[0, 3], _, rfl, rfl, rfl, rfl, rfl⟩
    | ok a3 q3 =>
     rw [hr3] at sp3; refine aR [0] rfl rfl rfl (sp3 nofun) rfl rfl rfl rfl ?_; refine O _ (aN [4, 7] rfl rfl ?_); clear O J K E; refine rgs fun E K J O => ?_; refine O _ (aN [4] rfl rfl ?_); clear O J K E; refine awp_ret ?_; simp only [factorF, eqW, R.bind, h1, h2, hr1, hr2, hr3] at hG; subst hG; exact ⟨_, [0], _, [encE _], rfl, rfl, rfl, rfl, rfl, (by first | exact PWs.refl _ | (refine PWs.cons (PW.d ?_) PWs.nil; repeat (first | exact DW.refl _ | refine DW.agg ?_ | refine DWs.cons ?_ ?_ | exact DWs.nil | exact DW.nil _))), rfl⟩
 refine rgs fun E K J O => ?_; refine onB_intro (fun h3 => ?_) (fun h3 => ?_)
 ·have hpos := size_pos (by simpa using h3)
  refine And.intro (by omega) (And.intro (by omega) ?_)
  show aCall _ _ _ _ _ _ _
  refine aR [] rfl rfl rfl (digit_spec _ _) rfl rfl rfl rfl ?_; refine O _ (aN [0, 1, 4, 43] rfl rfl ?_); clear O J K E; refine awp_cond2 rfl (onB_intro (fun h4 => ?_) (fun h4 => ?_))
  ·refine rgs fun E K J O => ?_; show aCall _ _ _ _ _ _ _
   have sp1 := numberP_spec t u s p hs4
   cases hr1 : numberF s p with
   | out =>
    simp only [factorF, eqW, isD, bz, R.bind, h1, h2, h3, h4, hr1] at hG; exact absurd hG.symm hne
   | bad q1 c1 =>
    rw [hr1] at sp1; refine aP [0] rfl rfl rfl (sp1 nofun) rfl rfl rfl rfl ?_; refine J _ _ ?_; simp only [factorF, eqW, isD, bz, R.bind, h1, h2, h3, h4, hr1] at hG; subst hG; exact ⟨[0, 2], _, rfl, rfl, rfl, rfl, rfl⟩
   | ok a1 q1 =>
    rw [hr1] at sp1; refine aR [0] rfl rfl rfl (sp1 nofun) rfl rfl rfl rfl ?_; refine O _ (aN [4] rfl rfl ?_); clear O J K E; refine awp_ret ?_; simp only [factorF, eqW, isD, bz, R.bind, h1, h2, h3, h4, hr1] at hG; subst hG; exact ⟨_, [0], _, [encE _], rfl, rfl, rfl, rfl, rfl, (by first | exact PWs.refl _ | (refine PWs.cons (PW.d ?_) PWs.nil; repeat (first | exact DW.refl _ | refine DW.agg ?_ | refine DWs.cons ?_ ?_ | exact DWs.nil | exact DW.nil _))), rfl⟩
  refine awp_skip ?_; refine rgs fun E K J O => ?_; show aCall _ _ _ _ _ _ _; have sp1 := nameP_spec t u s p hs
  cases hr1 : nameF s p with
  | out =>
   simp only [factorF, eqW, isD, bz, R.bind, h1, h2, h3, h4, hr1] at hG; exact absurd hG.symm hne
  | bad q1 c1 =>
   rw [hr1] at sp1; refine aP [0] rfl rfl rfl (sp1 nofun) rfl rfl rfl rfl ?_; refine J _ _ ?_; simp only [factorF, eqW, isD, bz, R.bind, h1, h2, h3, h4, hr1] at hG; subst hG; exact ⟨[0, 2], _, rfl, rfl, rfl, rfl, rfl⟩
  | ok a1 q1 =>
   rw [hr1] at sp1; refine aR [0] rfl rfl rfl (sp1 nofun) rfl rfl rfl rfl ?_; refine O _ (aN [0, 1, 4, 8] rfl rfl ?_); clear O J K E; refine awp_seq ?_; refine rgs fun E K J O => ?_; refine O _ (aN [0, 1, 4, 8, 67] rfl rfl ?_); clear O J K E; refine awp_cond2 rfl (onB_intro (fun h5 => ?_) (fun h5 => ?_))
   ·refine rgs fun E K J O => ?_; show aCall _ _ _ _ _ _ _
    have sp2 := deepP_spec t u s q1 d
    cases hr2 : deepF s d q1 with
    | out =>
     simp only [factorF, eqW, isD, bz, R.bind, h1, h2, h3, h4, hr1, h5, hr2] at hG; exact absurd hG.symm hne
    | bad q2 c2 =>
     rw [hr2] at sp2; refine aP [0] rfl rfl rfl (sp2 nofun) rfl rfl rfl rfl ?_; refine J _ _ ?_; simp only [factorF, eqW, isD, bz, R.bind, h1, h2, h3, h4, hr1, h5, hr2] at hG; subst hG; exact ⟨[0, 3], _, rfl, rfl, rfl, rfl, rfl⟩
    | ok a2 q2 =>
     rw [hr2] at sp2; refine aR [0] rfl rfl rfl (sp2 nofun) rfl rfl rfl rfl ?_; refine O _ (aN [0, 4, 8, 9] rfl rfl ?_); clear O J K E; refine rgs fun E K J O => ?_; show aCall _ _ _ _ _ _ _; refine aR [0] rfl rfl rfl (nextP_spec _ s q2 hs) rfl rfl rfl rfl ?_; refine O _ (aN [0, 4, 8, 9] rfl rfl ?_); clear O J K E; refine awp_seq ?_; refine (awp_draw TT_ok mixed p246_17 [7] (fun i => Nat.beq i 2) (by kernel_rfl) fun E K J O => ?_)
     show aCall _ _ _ _ _ _ _
     have sp3 := ihT n (by omega) a2 (nx s q2)
     cases hr3 : termF s n a2 (nx s q2) with
     | out =>
      simp only [factorF, eqW, isD, bz, R.bind, h1, h2, h3, h4, hr1, h5, hr2, hr3] at hG; exact absurd hG.symm hne
     | bad q3 c3 =>
      rw [hr3] at sp3; refine aP [0] rfl rfl rfl (sp3 nofun) rfl rfl rfl rfl ?_; refine J _ _ ?_; simp only [factorF, eqW, isD, bz, R.bind, h1, h2, h3, h4, hr1, h5, hr2, hr3] at hG; subst hG; exact ⟨[0, 3], _, rfl, rfl, rfl, rfl, rfl⟩
     | ok a3 q3 =>
      obtain ⟨o3, n3, m3, l3⟩ := a3; rw [hr3] at sp3; refine aR [0] rfl rfl rfl (sp3 nofun) rfl rfl rfl rfl ?_; refine O _ (aN [0, 4, 8] rfl rfl ?_); clear O J K E; refine rgn fun E K J O => ?_; show aCall _ _ _ _ _ _ _; have sp4 := takeP_spec t u s ⟨#[93]⟩ q3 hs
      cases hr4 : takeF s ⟨#[93]⟩ q3 with
      | out =>
       simp only [factorF, eqW, isD, bz, R.bind, h1, h2, h3, h4, hr1, h5, hr2, hr3, hr4] at hG; exact absurd hG.symm hne
      | bad q4 c4 =>
       rw [hr4] at sp4; refine aP [0] rfl rfl rfl (sp4 nofun) rfl rfl rfl rfl ?_; refine J _ _ ?_; simp only [factorF, eqW, isD, bz, R.bind, h1, h2, h3, h4, hr1, h5, hr2, hr3, hr4] at hG; subst hG; exact ⟨[0, 3], _, rfl, rfl, rfl, rfl, rfl⟩
      | ok a4 q4 =>
       rw [hr4] at sp4; refine aR [0] rfl rfl rfl (sp4 nofun) rfl rfl rfl rfl ?_; refine O _ (aN [4, 8] rfl rfl ?_); clear O J K E; refine rgs fun E K J O => ?_; refine O _ (aN [4] rfl rfl ?_); clear O J K E; refine awp_ret ?_; simp only [factorF, eqW, isD, bz, R.bind, h1, h2, h3, h4, hr1, h5, hr2, hr3, hr4] at hG; subst hG; exact ⟨_, [0], _, [encE _], rfl, rfl, rfl, rfl, rfl, (by first | exact PWs.refl _ | (refine PWs.cons (PW.d ?_) PWs.nil; repeat (first | exact DW.refl _ | refine DW.agg ?_ | refine DWs.cons ?_ ?_ | exact DWs.nil | exact DW.nil _))), rfl⟩
   refine awp_skip ?_; refine rgs fun E K J O => ?_; refine O _ (aN [4] rfl rfl ?_); clear O J K E; refine awp_ret ?_; simp only [factorF, eqW, isD, bz, R.bind, h1, h2, h3, h4, hr1, h5] at hG; subst hG; exact ⟨_, [0], _, [encE _], rfl, rfl, rfl, rfl, rfl, (by first | exact PWs.refl _ | (refine PWs.cons (PW.d ?_) PWs.nil; repeat (first | exact DW.refl _ | refine DW.agg ?_ | refine DWs.cons ?_ ?_ | exact DWs.nil | exact DW.nil _))), rfl⟩
 refine O _ (aN [0, 1, 4, 43] rfl rfl ?_); clear O J K E; refine awp_cond rfl ?_; refine awp_skip ?_; refine rgs fun E K J O => ?_; show aCall _ _ _ _ _ _ _; have sp1 := nameP_spec t u s p hs
 cases hr1 : nameF s p with
 | out =>
  simp only [factorF, eqW, isD, bz, R.bind, h1, h2, h3, hr1] at hG; exact absurd hG.symm hne
 | bad q1 c1 =>
  rw [hr1] at sp1; refine aP [0] rfl rfl rfl (sp1 nofun) rfl rfl rfl rfl ?_; refine J _ _ ?_; simp only [factorF, eqW, isD, bz, R.bind, h1, h2, h3, hr1] at hG; subst hG; exact ⟨[0, 2], _, rfl, rfl, rfl, rfl, rfl⟩
 | ok a1 q1 =>
  rw [hr1] at sp1; refine aR [0] rfl rfl rfl (sp1 nofun) rfl rfl rfl rfl ?_; refine O _ (aN [0, 1, 4, 8] rfl rfl ?_); clear O J K E; refine awp_seq ?_; refine rgs fun E K J O => ?_; refine O _ (aN [0, 1, 4, 8, 67] rfl rfl ?_); clear O J K E; refine awp_cond2 rfl (onB_intro (fun h4 => ?_) (fun h4 => ?_))
  ·refine rgs fun E K J O => ?_; show aCall _ _ _ _ _ _ _
   have sp2 := deepP_spec t u s q1 d
   cases hr2 : deepF s d q1 with
   | out =>
    simp only [factorF, eqW, isD, bz, R.bind, h1, h2, h3, hr1, h4, hr2] at hG; exact absurd hG.symm hne
   | bad q2 c2 =>
    rw [hr2] at sp2; refine aP [0] rfl rfl rfl (sp2 nofun) rfl rfl rfl rfl ?_; refine J _ _ ?_; simp only [factorF, eqW, isD, bz, R.bind, h1, h2, h3, hr1, h4, hr2] at hG; subst hG; exact ⟨[0, 3], _, rfl, rfl, rfl, rfl, rfl⟩
   | ok a2 q2 =>
    rw [hr2] at sp2; refine aR [0] rfl rfl rfl (sp2 nofun) rfl rfl rfl rfl ?_; refine O _ (aN [0, 4, 8, 9] rfl rfl ?_); clear O J K E; refine rgs fun E K J O => ?_; show aCall _ _ _ _ _ _ _; refine aR [0] rfl rfl rfl (nextP_spec _ s q2 hs) rfl rfl rfl rfl ?_; refine O _ (aN [0, 4, 8, 9] rfl rfl ?_); clear O J K E; refine awp_seq ?_; refine (awp_draw TT_ok mixed p246_17 [7] (fun i => Nat.beq i 2) (by kernel_rfl) fun E K J O => ?_)
    show aCall _ _ _ _ _ _ _
    have sp3 := ihT n (by omega) a2 (nx s q2)
    cases hr3 : termF s n a2 (nx s q2) with
    | out =>
     simp only [factorF, eqW, isD, bz, R.bind, h1, h2, h3, hr1, h4, hr2, hr3] at hG; exact absurd hG.symm hne
    | bad q3 c3 =>
     rw [hr3] at sp3; refine aP [0] rfl rfl rfl (sp3 nofun) rfl rfl rfl rfl ?_; refine J _ _ ?_; simp only [factorF, eqW, isD, bz, R.bind, h1, h2, h3, hr1, h4, hr2, hr3] at hG; subst hG; exact ⟨[0, 3], _, rfl, rfl, rfl, rfl, rfl⟩
    | ok a3 q3 =>
     obtain ⟨o3, n3, m3, l3⟩ := a3; rw [hr3] at sp3; refine aR [0] rfl rfl rfl (sp3 nofun) rfl rfl rfl rfl ?_; refine O _ (aN [0, 4, 8] rfl rfl ?_); clear O J K E; refine rgn fun E K J O => ?_; show aCall _ _ _ _ _ _ _; have sp4 := takeP_spec t u s ⟨#[93]⟩ q3 hs
     cases hr4 : takeF s ⟨#[93]⟩ q3 with
     | out =>
      simp only [factorF, eqW, isD, bz, R.bind, h1, h2, h3, hr1, h4, hr2, hr3, hr4] at hG; exact absurd hG.symm hne
     | bad q4 c4 =>
      rw [hr4] at sp4; refine aP [0] rfl rfl rfl (sp4 nofun) rfl rfl rfl rfl ?_; refine J _ _ ?_; simp only [factorF, eqW, isD, bz, R.bind, h1, h2, h3, hr1, h4, hr2, hr3, hr4] at hG; subst hG; exact ⟨[0, 3], _, rfl, rfl, rfl, rfl, rfl⟩
     | ok a4 q4 =>
      rw [hr4] at sp4; refine aR [0] rfl rfl rfl (sp4 nofun) rfl rfl rfl rfl ?_; refine O _ (aN [4, 8] rfl rfl ?_); clear O J K E; refine rgs fun E K J O => ?_; refine O _ (aN [4] rfl rfl ?_); clear O J K E; refine awp_ret ?_; simp only [factorF, eqW, isD, bz, R.bind, h1, h2, h3, hr1, h4, hr2, hr3, hr4] at hG; subst hG; exact ⟨_, [0], _, [encE _], rfl, rfl, rfl, rfl, rfl, (by first | exact PWs.refl _ | (refine PWs.cons (PW.d ?_) PWs.nil; repeat (first | exact DW.refl _ | refine DW.agg ?_ | refine DWs.cons ?_ ?_ | exact DWs.nil | exact DW.nil _))), rfl⟩
  refine awp_skip ?_; refine rgs fun E K J O => ?_; refine O _ (aN [4] rfl rfl ?_); clear O J K E; refine awp_ret ?_; simp only [factorF, eqW, isD, bz, R.bind, h1, h2, h3, hr1, h4] at hG; subst hG; exact ⟨_, [0], _, [encE _], rfl, rfl, rfl, rfl, rfl, (by first | exact PWs.refl _ | (refine PWs.cons (PW.d ?_) PWs.nil; repeat (first | exact DW.refl _ | refine DW.agg ?_ | refine DWs.cons ?_ ?_ | exact DWs.nil | exact DW.nil _))), rfl⟩
theorem terms_ok (s : ByteArray) (hs4 : s.size ≤ 4000) : ∀ n, FacOk t u s n ∧ ProdOk t u s n ∧ TermOk t u s n := by
 have hs : s.size < 4611686018427387904 := by omega
 intro n
 induction n using Nat.strongRecOn with
 | _ n ih =>
  cases n with
  | zero => exact ⟨fun d p h => absurd (by simp only [factorF]) h, fun d p h => absurd (by simp only [productF]) h, fun d p h => absurd (by simp only [termF]) h⟩
  | succ n => exact ⟨fac_step t u s hs4 n (fun m hm => (ih m (by omega)).1) (fun m hm => (ih m (by omega)).2.2), prod_step t u s hs n (fun m hm => (ih m (by omega)).1), term_step t u s hs n (fun m hm => (ih m (by omega)).2.1)⟩
theorem termP_spec (s : ByteArray) (hs4 : s.size ≤ 4000) (n : Nat) : TermOk t u s n := (terms_ok t u s hs4 n).2.2
end
end Go.Abs
end
section
namespace Go.Abs
open Go Go.Proofs
attribute [local irreducible] aCall AWp Sub Spec
def testF (s : ByteArray) (n : Nat) (p : PS s) : R s Ts := (termF s n 1 p).bind fun a q => match isRelF q.w with
 | true => (termF s n 1 (nx s q)).bind fun b q2 => .ok ⟨a, q.w, b⟩ q2
 | false => .bad q 3
def andL (s : ByteArray) : Nat → List Ts → PS s → R s (List Ts)
 | 0, _, _ => .out
 | n + 1, row, p => match eqW p.w ⟨#[97, 110, 100]⟩ with
  | true => (testF s n (nx s p)).bind fun t q => andL s n (row ++ [t]) q
  | false => .ok row p
def rowF (s : ByteArray) (n : Nat) (p : PS s) : R s (List Ts) := match eqW p.w ⟨#[116, 114, 117, 101]⟩ with
 | true => .ok [] (nx s p)
 | false => (testF s n p).bind fun t q => andL s n [t] q
def condL (s : ByteArray) : Nat → List (List Ts) → PS s → R s (List (List Ts))
 | 0, _, _ => .out
 | n + 1, acc, p => (rowF s n p).bind fun row q => match eqW q.w ⟨#[111, 114]⟩ with
  | true => condL s n (acc ++ [row]) (nx s q)
  | false => .ok (acc ++ [row]) q
def condF (s : ByteArray) (n : Nat) (p : PS s) : R s (List (List Ts)) := match eqW p.w ⟨#[102, 97, 108, 115, 101]⟩ with
 | true => .ok [] (nx s p)
 | false => condL s n [] p
def encT : Ts → PV := fun t => .d (.agg t.cs)
def encC : List (List Ts) → PV := fun c => .d (.sl 1 (cnd c))
theorem tss_snoc (l : List Ts) (t : Ts) : tss l ++ [t.cs] = tss (l ++ [t]) := by simp [tss]
theorem cnd_snoc (l : List (List Ts)) (t : List Ts) : cnd l ++ [[.sl 9 (tss t)]] = cnd (l ++ [t]) := by simp [cnd]
theorem tss_length (l : List Ts) : (tss l).length = l.length := by simp [tss]
theorem cnd_length (l : List (List Ts)) : (cnd l).length = l.length := by simp [cnd]
theorem maxLen_eq : maxLen = 9223372036854775807 := rfl
section
variable (t : Nat → TypeId) (u : Nat → Value)
def p276_6 : Plan := (.load 0 (.take 1 (.take 2 (.one 3 (.one 4 (.one 5 .done))))))
theorem testP_spec (s : ByteArray) (hs4 : s.size ≤ 4000) (n : Nat) (p : PS s) : PSpec t u 276 [.box 0 0] s p encT (testF s n p) := by
 intro hne; obtain ⟨r, hG⟩ : ∃ r, testF s n p = r := ⟨_, rfl⟩; rw [hG] at hne ⊢
 have hs : s.size < 4611686018427387904 := by omega
 refine spec_of_awp2 TT_ok (N := 24) Tryz.func276 rfl (by rfl) ((by cases r <;> simp [rowsR] at hne ⊢)) rfl ?_
 refine rgs fun E K J O => ?_; refine O _ (aN [0, 2] rfl rfl ?_); clear O J K E; refine rgs fun E K J O => ?_; show aCall _ _ _ _ _ _ _; have sp1 := termP_spec t u s hs4 n 1 p
 cases hr1 : termF s n 1 p with
 | out =>
  simp only [testF, R.bind, hr1] at hG; exact absurd hG.symm hne
 | bad q1 c1 =>
  rw [hr1] at sp1; refine aP [0] rfl rfl rfl (sp1 nofun) rfl rfl rfl rfl ?_; refine J _ _ ?_; simp only [testF, R.bind, hr1] at hG; subst hG; exact ⟨[0, 2], _, rfl, rfl, rfl, rfl, rfl⟩
 | ok a1 q1 =>
  obtain ⟨o1, n1, m1, l1⟩ := a1; rw [hr1] at sp1; refine aR [0] rfl rfl rfl (sp1 nofun) rfl rfl rfl rfl ?_; refine O _ (aN [0, 2, 3] rfl rfl ?_); clear O J K E; refine rgs fun E K J O => ?_; refine O _ (aN [0, 2, 3, 4] rfl rfl ?_); clear O J K E; refine awp_seq ?_; refine rgs fun E K J O => ?_; show aCall _ _ _ _ _ _ _; refine aR [] rfl rfl rfl (isRel_spec _ _) rfl rfl rfl rfl ?_; refine O _ (aN [0, 2, 3, 4, 13] rfl rfl ?_); clear O J K E; refine awp_cond2 rfl (onB_intro (fun h1 => ?_) (fun h1 => ?_))
  ·have h1 := Bool.not_eq_true' _ ▸ h1
   refine rgn fun E K J O => ?_; show aCall _ _ _ _ _ _ _; refine aP [0] rfl rfl rfl (fail_spec (GV t u) 132 s _ _ (t 3) (u 3)) rfl rfl rfl rfl ?_; refine J _ _ ?_; simp only [testF, R.bind, hr1, h1] at hG; subst hG; exact ⟨[0, 3], _, rfl, rfl, rfl, rfl, rfl⟩
  have h1 := Bool.not_eq_false' _ ▸ h1; refine awp_skip ?_; refine rgs fun E K J O => ?_; show aCall _ _ _ _ _ _ _; refine aR [0] rfl rfl rfl (nextP_spec _ s q1 hs) rfl rfl rfl rfl ?_; refine O _ (aN [0, 2, 3, 4] rfl rfl ?_); clear O J K E; refine awp_seq ?_; refine (awp_draw TT_ok mixed p276_6 [5] (fun i => Nat.beq i 2) (by kernel_rfl) fun E K J O => ?_)
  show aCall _ _ _ _ _ _ _
  have sp2 := termP_spec t u s hs4 n 1 (nx s q1)
  cases hr2 : termF s n 1 (nx s q1) with
  | out =>
   simp only [testF, R.bind, hr1, h1, hr2] at hG; exact absurd hG.symm hne
  | bad q2 c2 =>
   rw [hr2] at sp2; refine aP [0] rfl rfl rfl (sp2 nofun) rfl rfl rfl rfl ?_; refine J _ _ ?_; simp only [testF, R.bind, hr1, h1, hr2] at hG; subst hG; exact ⟨[0, 3], _, rfl, rfl, rfl, rfl, rfl⟩
  | ok a2 q2 =>
   obtain ⟨o2, n2, m2, l2⟩ := a2; rw [hr2] at sp2; refine aR [0] rfl rfl rfl (sp2 nofun) rfl rfl rfl rfl ?_; refine O _ (aN [2] rfl rfl ?_); clear O J K E; refine awp_ret ?_; simp only [testF, R.bind, hr1, h1, hr2] at hG; subst hG; exact ⟨_, [0], _, [encT _], rfl, rfl, rfl, rfl, rfl, (by first | exact PWs.refl _ | (refine PWs.cons (PW.d ?_) PWs.nil; repeat (first | exact DW.refl _ | refine DW.agg ?_ | refine DWs.cons ?_ ?_ | exact DWs.nil | exact DW.nil _))), rfl⟩
theorem condP_spec (s : ByteArray) (hs4 : s.size ≤ 4000) (n : Nat) (hn : n ≤ 1000000) (p : PS s) : PSpec t u 245 [.box 0 0] s p encC (condF s n p) := by
 intro hne; obtain ⟨r, hG⟩ : ∃ r, condF s n p = r := ⟨_, rfl⟩; rw [hG] at hne ⊢
 have hs : s.size < 4611686018427387904 := by omega
 refine spec_of_awp2 TT_ok (N := 30) Tryz.func245 rfl (by rfl) ((by cases r <;> simp [rowsR] at hne ⊢)) rfl ?_
 refine rgs fun E K J O => ?_; refine O _ (aN [0] rfl rfl ?_); clear O J K E; refine awp_seq ?_; refine rgs fun E K J O => ?_; show aCall _ _ _ _ _ _ _
 cases hr1 : (p.w.toList == (⟨#[102, 97, 108, 115, 101]⟩ : ByteArray).toList) with
 | true =>
  refine aR [0] rfl rfl rfl (hasP_yes (GV t u) s _ p hs hr1) rfl rfl rfl rfl ?_; refine O _ (aN [0, 6] rfl rfl ?_); clear O J K E; refine awp_cond rfl ?_; refine rgs fun E K J O => ?_; refine O _ (aN [2] rfl rfl ?_); clear O J K E; refine awp_ret ?_; simp only [condF, eqW, hr1] at hG; subst hG; exact ⟨_, [0], _, [encC _], rfl, rfl, rfl, rfl, rfl, (by first | exact PWs.refl _ | (refine PWs.cons (PW.d ?_) PWs.nil; repeat (first | exact DW.refl _ | refine DW.agg ?_ | refine DWs.cons ?_ ?_ | exact DWs.nil | exact DW.nil _))), rfl⟩
 | false =>
  refine aR [0] rfl rfl rfl (hasP_no (GV t u) s _ p hr1) rfl rfl rfl rfl ?_; refine O _ (aN [0, 6] rfl rfl ?_); clear O J K E; refine awp_cond rfl ?_; refine awp_skip ?_; refine rgs fun E K J O => ?_; refine O _ (aN [0, 3] rfl rfl ?_); clear O J K E; simp only [condF, eqW, hr1] at hG; refine awp_acc 3 123 1 rfl rfl rfl ?_; refine awp_norm [0, 3] rfl rfl ?_; refine awp_block ?_; refine awp_loop (fun k Y => ∃ acc q, acc.length + k ≤ n ∧ condL s k acc q = r ∧ Y = ⟨[(0, .box 0 0), (3, .acc 1)], [rd s q, .acc 123 1 (cnd acc)]⟩) (n) (⟨[], p, by simp, hG, rfl⟩) ?_; clear hG; rintro k Y ⟨acc, q, hk, hG, rfl⟩
  cases k with
  | zero => simp only [condL] at hG; exact absurd hG.symm hne
  | succ m =>
   refine awp_block ?_; refine rgs fun E K J O => ?_; refine O _ (aN [0, 3, 4] rfl rfl ?_); clear O J K E; refine awp_acc 4 282 9 rfl rfl rfl ?_; refine awp_norm [0, 3, 4] rfl rfl ?_; refine awp_seq ?_; refine rgs fun E K J O => ?_; show aCall _ _ _ _ _ _ _
   cases hr2 : (q.w.toList == (⟨#[116, 114, 117, 101]⟩ : ByteArray).toList) with
   | true =>
    refine aR [0] rfl rfl rfl (hasP_yes (GV t u) s _ q hs hr2) rfl rfl rfl rfl ?_; refine O _ (aN [0, 3, 4, 9] rfl rfl ?_); clear O J K E; refine awp_cond rfl ?_; refine awp_skip ?_; refine rgs fun E K J O => ?_; refine And.intro (And.intro (by simp only [chunk_length, cnd_length]; omega) (by simp only [chunk_length, cnd_length, maxLen_eq]; omega)) ?_; refine O _ (aN [0, 3] rfl rfl ?_); clear O J K E; refine rgs fun E K J O => ?_; show aCall _ _ _ _ _ _ _
    cases hr3 : ((nx s q).w.toList == (⟨#[111, 114]⟩ : ByteArray).toList) with
    | true =>
     refine aR [0] rfl rfl rfl (hasP_yes (GV t u) s _ (nx s q) hs hr3) rfl rfl rfl rfl ?_; refine O _ (aN [0, 3, 28] rfl rfl ?_); clear O J K E; refine awp_cond rfl ?_; refine awp_skip ?_; simp only [condL, rowF, eqW, R.bind, hr2, hr3] at hG; exact ⟨m, Nat.lt_succ_self m, _, sub_pick (L := [0, 1]) (slots := [0, 3]) rfl rfl rfl rfl rfl, _, _, by simp only [List.length_append, List.length_cons, List.length_nil]; omega, hG, by first | rfl | (rw [← cnd_snoc]; rfl)⟩
    | false =>
     refine aR [0] rfl rfl rfl (hasP_no (GV t u) s _ (nx s q) hr3) rfl rfl rfl rfl ?_; refine O _ (aN [0, 3, 28] rfl rfl ?_); clear O J K E; refine awp_cond rfl ?_; refine rgs fun E K J O => ?_; refine O _ (aN [2] rfl rfl ?_); clear O J K E; refine awp_ret ?_; simp only [condL, rowF, eqW, R.bind, hr2, hr3] at hG; subst hG; exact ⟨_, [0], _, [encC _], rfl, rfl, rfl, rfl, rfl, by first | exact PWs.refl _ | (simp only [encC, ← cnd_snoc]; exact PWs.refl _), rfl⟩
   | false =>
    refine aR [0] rfl rfl rfl (hasP_no (GV t u) s _ q hr2) rfl rfl rfl rfl ?_; refine O _ (aN [0, 3, 4, 9] rfl rfl ?_); clear O J K E; refine awp_cond rfl ?_; refine rgs fun E K J O => ?_; show aCall _ _ _ _ _ _ _; have sp3 := testP_spec t u s hs4 m q
    cases hr3 : testF s m q with
    | out =>
     simp only [condL, rowF, eqW, R.bind, hr2, hr3] at hG; exact absurd hG.symm hne
    | bad q3 c3 =>
     rw [hr3] at sp3; refine aP [0] rfl rfl rfl (sp3 nofun) rfl rfl rfl rfl ?_; refine J _ _ ?_; simp only [condL, rowF, eqW, R.bind, hr2, hr3] at hG; subst hG; exact ⟨[0, 3], _, rfl, rfl, rfl, rfl, rfl⟩
    | ok a3 q3 =>
     obtain ⟨⟨o3, n3, m3, l3⟩, w3, ⟨o3b, n3b, m3b, l3b⟩⟩ := a3; rw [hr3] at sp3; refine aR [0] rfl rfl rfl (sp3 nofun) rfl rfl rfl rfl ?_; refine And.intro (And.intro (by simp only [chunk_length, List.length_nil]; omega) (by simp only [chunk_length, List.length_nil, maxLen_eq]; omega)) ?_; refine O _ (aN [0, 3, 4] rfl rfl ?_); clear O J K E; refine awp_block ?_; simp only [condL, rowF, eqW, hr2, hr3, R.bind] at hG; clear hr3 sp3; refine awp_loop (fun k Y => ∃ row q, row.length + k ≤ m + 1 ∧ ((andL s k row q).bind fun row q => match eqW q.w ⟨#[111, 114]⟩ with | true => condL s m (acc ++ [row]) (nx s q) | false => .ok (acc ++ [row]) q) = r ∧ Y = ⟨[(0, .box 0 0), (3, .acc 1), (4, .acc 2)], [rd s q, .acc 123 1 (cnd acc), .acc 282 9 (tss row)]⟩) (m) (⟨[_], q3, by simp only [List.length_cons, List.length_nil]; omega, hG, rfl⟩) ?_; clear hG; rintro k Y ⟨row, q5, hk2, hG, rfl⟩
     cases k with
     | zero => simp only [andL, R.bind] at hG; exact absurd hG.symm hne
     | succ m2 =>
      refine awp_seq ?_; refine rgs fun E K J O => ?_; show aCall _ _ _ _ _ _ _
      cases hr6 : (q5.w.toList == (⟨#[97, 110, 100]⟩ : ByteArray).toList) with
      | true =>
       refine aR [0] rfl rfl rfl (hasP_yes (GV t u) s _ q5 hs hr6) rfl rfl rfl rfl ?_; refine O _ (aN [0, 3, 4, 16] rfl rfl ?_); clear O J K E; refine awp_cond rfl ?_; refine awp_skip ?_; refine awp_block ?_; refine rgn fun E K J O => ?_; show aCall _ _ _ _ _ _ _; have sp7 := testP_spec t u s hs4 m2 (nx s q5)
       cases hr7 : testF s m2 (nx s q5) with
       | out =>
        simp only [andL, eqW, R.bind, hr6, hr7] at hG; exact absurd hG.symm hne
       | bad q7 c7 =>
        rw [hr7] at sp7; refine aP [0] rfl rfl rfl (sp7 nofun) rfl rfl rfl rfl ?_; refine J _ _ ?_; simp only [andL, eqW, R.bind, hr6, hr7] at hG; subst hG; exact ⟨[0, 3], _, rfl, rfl, rfl, rfl, rfl⟩
       | ok a7 q7 =>
        obtain ⟨⟨o7, n7, m7, l7⟩, w7, ⟨o7b, n7b, m7b, l7b⟩⟩ := a7; rw [hr7] at sp7; refine aR [0] rfl rfl rfl (sp7 nofun) rfl rfl rfl rfl ?_; refine And.intro (And.intro (by simp only [chunk_length, tss_length]; omega) (by simp only [chunk_length, tss_length, maxLen_eq]; omega)) ?_; refine O _ ?_; clear O J K E; simp only [andL, eqW, R.bind, hr6, hr7] at hG; exact ⟨m2, Nat.lt_succ_self m2, _, sub_norm (slots := [0, 3, 4]) rfl rfl, _, _, by simp only [List.length_append, List.length_cons, List.length_nil]; omega, hG, by rw [← tss_snoc]; rfl⟩
      | false =>
       refine aR [0] rfl rfl rfl (hasP_no (GV t u) s _ q5 hr6) rfl rfl rfl rfl ?_; refine O _ (aN [0, 3, 4, 16] rfl rfl ?_); clear O J K E; refine awp_cond rfl ?_; refine awp_exit ?_; refine rgs fun E K J O => ?_; refine And.intro (And.intro (by simp only [chunk_length, cnd_length]; omega) (by simp only [chunk_length, cnd_length, maxLen_eq]; omega)) ?_; refine O _ (aN [0, 3] rfl rfl ?_); clear O J K E; refine rgs fun E K J O => ?_; show aCall _ _ _ _ _ _ _
       cases hr7 : (q5.w.toList == (⟨#[111, 114]⟩ : ByteArray).toList) with
       | true =>
        refine aR [0] rfl rfl rfl (hasP_yes (GV t u) s _ q5 hs hr7) rfl rfl rfl rfl ?_; refine O _ (aN [0, 3, 28] rfl rfl ?_); clear O J K E; refine awp_cond rfl ?_; refine awp_skip ?_; simp only [andL, eqW, R.bind, hr6, hr7] at hG; exact ⟨m, Nat.lt_succ_self m, _, sub_pick (L := [0, 1]) (slots := [0, 3]) rfl rfl rfl rfl rfl, _, _, by simp only [List.length_append, List.length_cons, List.length_nil]; omega, hG, by first | rfl | (rw [← cnd_snoc]; rfl)⟩
       | false =>
        refine aR [0] rfl rfl rfl (hasP_no (GV t u) s _ q5 hr7) rfl rfl rfl rfl ?_; refine O _ (aN [0, 3, 28] rfl rfl ?_); clear O J K E; refine awp_cond rfl ?_; refine rgs fun E K J O => ?_; refine O _ (aN [2] rfl rfl ?_); clear O J K E; refine awp_ret ?_; simp only [andL, eqW, R.bind, hr6, hr7] at hG; subst hG; exact ⟨_, [0], _, [encC _], rfl, rfl, rfl, rfl, rfl, by first | exact PWs.refl _ | (simp only [encC, ← cnd_snoc]; exact PWs.refl _), rfl⟩
end
end Go.Abs
end
section
namespace Go.Abs
open Go Go.Proofs
attribute [local irreducible] aCall AWp Sub Spec
mutual
def stmtsL (s : ByteArray) : Nat → Int → List Sm → PS s → R s (List Sm)
 | 0, _, _, _ => .out
 | n + 1, d, acc, p => match (!eqW p.w ⟨#[125]⟩ && !eqW p.w ⟨#[114, 101, 116, 117, 114, 110]⟩) with
  | true => match decide (d > 12) with
   | true => .bad p 0
   | false => (stmtF s n d p).bind fun st q => stmtsL s n d (acc ++ [st]) q
  | false => .ok acc p
def blockF (s : ByteArray) : Nat → Int → PS s → R s (List Sm)
 | 0, _, _ => .out
 | n + 1, d, p => (takeF s ⟨#[123]⟩ p).bind fun _ q => (stmtsL s n d [] q).bind fun l q => (takeF s ⟨#[125]⟩ q).bind fun _ q => .ok l q
def stmtF (s : ByteArray) : Nat → Int → PS s → R s Sm
 | 0, _, _ => .out
 | n + 1, d, p => match (eqW p.w ⟨#[105, 102]⟩ || eqW p.w ⟨#[119, 104, 105, 108, 101]⟩) with
  | true => (condF s n (nx s p)).bind fun c q => (blockF s n (IntKind.i64.wrap (d + 1)) q).bind fun b q => match (eqW p.w ⟨#[105, 102]⟩ && eqW q.w ⟨#[101, 108, 115, 101]⟩) with
   | true => (blockF s n (IntKind.i64.wrap (d + 1)) (nx s q)).bind fun e q => .ok (.mk p.w ⟨#[]⟩ ⟨#[]⟩ [] c b e) q
   | false => .ok (.mk p.w ⟨#[]⟩ ⟨#[]⟩ [] c b []) q
  | false => match (eqW p.w ⟨#[97, 115, 115, 101, 114, 116]⟩ || eqW p.w ⟨#[97, 115, 115, 117, 109, 101]⟩) with
   | true => (condF s n (nx s p)).bind fun c q => (takeF s ⟨#[59]⟩ q).bind fun _ q => .ok (.mk p.w ⟨#[]⟩ ⟨#[]⟩ [] c [] []) q
   | false => match eqW p.w ⟨#[114, 101, 97, 100]⟩ with
    | true => (nameF s (nx s p)).bind fun m q => (takeF s ⟨#[59]⟩ q).bind fun _ q => .ok (.mk p.w m ⟨#[]⟩ [] [] [] []) q
    | false => (nameF s p).bind fun m q => match eqW q.w ⟨#[91]⟩ with
     | true => (termF s n 1 (nx s q)).bind fun i q => (takeF s ⟨#[93]⟩ q).bind fun _ q => (takeF s ⟨#[61]⟩ q).bind fun _ q => (termF s n 1 q).bind fun e q => (takeF s ⟨#[59]⟩ q).bind fun _ q => .ok (.mk ⟨#[112, 117, 116]⟩ m ⟨#[]⟩ [i, e] [] [] []) q
     | false => (takeF s ⟨#[61]⟩ q).bind fun _ q => match eqW q.w ⟨#[99, 97, 108, 108]⟩ with
      | true => (nameF s (nx s q)).bind fun f q => (takeF s ⟨#[40]⟩ q).bind fun _ q => (argsL s n [] q).bind fun l q => (takeF s ⟨#[59]⟩ q).bind fun _ q => .ok (.mk ⟨#[99, 97, 108, 108]⟩ m f l [] [] []) q
      | false => (termF s n 1 q).bind fun e q => (takeF s ⟨#[59]⟩ q).bind fun _ q => .ok (.mk ⟨#[115, 101, 116]⟩ m ⟨#[]⟩ [e] [] [] []) q
def argsL (s : ByteArray) : Nat → List Ex → PS s → R s (List Ex)
 | 0, _, _ => .out
 | n + 1, acc, p => match (!eqW p.w ⟨#[41]⟩) with
  | true => match decide ((acc.length : Int) > 0) with
   | true => (takeF s ⟨#[44]⟩ p).bind fun _ q => (termF s n 1 q).bind fun e q => argsL s n (acc ++ [e]) q
   | false => (termF s n 1 p).bind fun e q => argsL s n (acc ++ [e]) q
  | false => .ok acc (nx s p)
end
def encL : List Sm → PV := fun l => .d (.sl 7 (sms l))
def encM : Sm → PV := fun st => .d (.agg st.cs)
theorem sms_snoc : ∀ (l : List Sm) (t : Sm), sms l ++ [t.cs] = sms (l ++ [t])
 | [], t => by simp [sms]
 | x :: r, t => by simp only [sms, List.cons_append, sms_snoc r t]
theorem sms_length : ∀ (l : List Sm), (sms l).length = l.length
 | [] => rfl
 | x :: r => by simp [sms, sms_length r]
theorem exs_snoc : ∀ (l : List Ex) (t : Ex), exs l ++ [t.cs] = exs (l ++ [t])
 | [], t => by simp [exs]
 | x :: r, t => by simp only [exs, List.cons_append, exs_snoc r t]
theorem exs_length : ∀ (l : List Ex), (exs l).length = l.length
 | [] => rfl
 | x :: r => by simp [exs, exs_length r]
def nilC : PV := .d (.s (.slice none 0 0))
def zS : List PV := [.d (str ⟨#[]⟩), .d (str ⟨#[]⟩), .d (str ⟨#[]⟩), nilC, nilC, nilC, nilC]
section
variable (t : Nat → TypeId) (u : Nat → Value)
def StmtOk (s : ByteArray) (n : Nat) : Prop := ∀ (d : Int) (p : PS s), PSpec t u 197 [.box 0 0, .d (num d)] s p encM (stmtF s n d p)
def BlockOk (s : ByteArray) (n : Nat) : Prop := ∀ (d : Int) (p : PS s), PSpec t u 138 [.box 0 0, .d (num d), .fn 141 []] s p encL (blockF s n d p)
theorem nothing_spec (G : Glob) : Spec Tryz.prog G 141 [] [] (.ret (.tup [])) [] := by
 refine spec_of_awp2 TT_ok (N := 0) Tryz.func141 rfl (by rfl) (Nat.le_refl _) rfl ?_; refine awp_skip ?_; exact ⟨_, [], _, _, rfl, rfl, rfl, rfl, rfl, PWs.refl _, rfl⟩
theorem block_step (s : ByteArray) (hs4 : s.size ≤ 4000) (n : Nat) (hn : n ≤ 1000000) (ih : ∀ m, m ≤ n → StmtOk t u s m) : BlockOk t u s (n + 1) := by
 intro d p hne; obtain ⟨r, hG⟩ : ∃ r, blockF s (n + 1) d p = r := ⟨_, rfl⟩; rw [hG] at hne ⊢
 have hs : s.size < 4611686018427387904 := by omega
 refine spec_of_awp2 TT_ok (N := 38) Tryz.func138 rfl (by rfl) ((by cases r <;> simp [rowsR] at hne ⊢)) rfl ?_
 refine rgs fun E K J O => ?_; refine O _ (aN [0, 1, 2] rfl rfl ?_); clear O J K E; refine rgs fun E K J O => ?_; show aCall _ _ _ _ _ _ _; have sp1 := takeP_spec t u s ⟨#[123]⟩ p hs
 cases hr1 : takeF s ⟨#[123]⟩ p with
 | out =>
  simp only [blockF, R.bind, hr1] at hG; exact absurd hG.symm hne
 | bad q1 c1 =>
  rw [hr1] at sp1; refine aP [0] rfl rfl rfl (sp1 nofun) rfl rfl rfl rfl ?_; refine J _ _ ?_; simp only [blockF, R.bind, hr1] at hG; subst hG; exact ⟨[0, 1], _, rfl, rfl, rfl, rfl, rfl⟩
 | ok a1 q1 =>
  rw [hr1] at sp1; refine aR [0] rfl rfl rfl (sp1 nofun) rfl rfl rfl rfl ?_; refine O _ (aN [0, 1, 2] rfl rfl ?_); clear O J K E; refine rgs fun E K J O => ?_; refine O _ (aN [0, 1, 2, 7] rfl rfl ?_); clear O J K E; refine awp_acc 7 217 7 rfl rfl rfl ?_; refine awp_norm [0, 1, 2, 7] rfl rfl ?_; refine awp_seq ?_; refine awp_block ?_; simp only [blockF, R.bind, hr1] at hG; clear hr1 sp1; refine awp_loop (fun k Y => ∃ acc q, acc.length + k ≤ n ∧ ((stmtsL s k d acc q).bind fun l q => (takeF s ⟨#[125]⟩ q).bind fun _ q => .ok l q) = r ∧ Y = ⟨[(0, .box 0 0), (1, .d (num d)), (2, .fn 141 []), (7, .acc 1)], [rd s q, .acc 217 7 (sms acc)]⟩) (n) (⟨[], _, by simp, hG, rfl⟩) ?_; clear hG; rintro k Y ⟨acc, q, hk, hG, rfl⟩
  cases k with
  | zero => simp only [stmtsL, R.bind] at hG; exact absurd hG.symm hne
  | succ m =>
   refine awp_seq ?_; refine rgs fun E K J O => ?_; refine onB_intro (fun h1 => ?_) (fun h1 => ?_)
   ·refine O _ (aN [0, 1, 2, 7, 21] rfl rfl ?_); clear O J K E
    refine awp_cond2 rfl (onB_intro (fun h2 => ?_) (fun h2 => ?_))
    ·refine awp_skip ?_; refine awp_block ?_; refine awp_seq ?_; refine rgs fun E K J O => ?_; refine O _ (aN [0, 1, 2, 7, 23] rfl rfl ?_); clear O J K E
     refine awp_cond2 rfl (onB_intro (fun h3 => ?_) (fun h3 => ?_))
     ·refine rgn fun E K J O => ?_; show aCall _ _ _ _ _ _ _
      refine aP [0] rfl rfl rfl (fail_spec (GV t u) 132 s _ _ (t 0) (u 0)) rfl rfl rfl rfl ?_; refine J _ _ ?_; simp only [stmtsL, eqW, bz, R.bind, h1, h2, h3] at hG; subst hG; exact ⟨[0, 2], _, rfl, rfl, rfl, rfl, rfl⟩
     refine awp_skip ?_; refine rgn fun E K J O => ?_; show aCall _ _ _ _ _ _ _; have sp2 := ih m (by omega) d q
     cases hr2 : stmtF s m d q with
     | out =>
      simp only [stmtsL, eqW, bz, R.bind, h1, h2, h3, hr2] at hG; exact absurd hG.symm hne
     | bad q2 c2 =>
      rw [hr2] at sp2; refine aP [0] rfl rfl rfl (sp2 nofun) rfl rfl rfl rfl ?_; refine J _ _ ?_; simp only [stmtsL, eqW, bz, R.bind, h1, h2, h3, hr2] at hG; subst hG; exact ⟨[0, 2], _, rfl, rfl, rfl, rfl, rfl⟩
     | ok a2 q2 =>
      obtain ⟨x2, y2, z2, l2, c2, b2, e2⟩ := a2; rw [hr2] at sp2; refine aR [0] rfl rfl rfl (sp2 nofun) rfl rfl rfl rfl ?_; refine And.intro (And.intro (by simp only [chunk_length, sms_length]; omega) (by simp only [chunk_length, sms_length, maxLen_eq]; omega)) ?_; refine O _ ?_; clear O J K E; simp only [stmtsL, eqW, bz, R.bind, h1, h2, h3, hr2] at hG; exact ⟨m, Nat.lt_succ_self m, _, sub_norm (slots := [0, 1, 2, 7]) rfl rfl, _, _, by simp only [List.length_append, List.length_cons, List.length_nil]; omega, hG, by rw [← sms_snoc]; rfl⟩
    refine awp_exit ?_; refine rgs fun E K J O => ?_; show aCall _ _ _ _ _ _ _; refine aR [] rfl rfl rfl (nothing_spec _) rfl rfl rfl rfl ?_; refine O _ (aN [0, 7] rfl rfl ?_); clear O J K E; refine rgs fun E K J O => ?_; show aCall _ _ _ _ _ _ _; have sp2 := takeP_spec t u s ⟨#[125]⟩ q hs
    cases hr2 : takeF s ⟨#[125]⟩ q with
    | out =>
     simp only [stmtsL, eqW, bz, R.bind, h1, h2, hr2] at hG; exact absurd hG.symm hne
    | bad q2 c2 =>
     rw [hr2] at sp2; refine aP [0] rfl rfl rfl (sp2 nofun) rfl rfl rfl rfl ?_; refine J _ _ ?_; simp only [stmtsL, eqW, bz, R.bind, h1, h2, hr2] at hG; subst hG; exact ⟨[0, 2], _, rfl, rfl, rfl, rfl, rfl⟩
    | ok a2 q2 =>
     rw [hr2] at sp2; refine aR [0] rfl rfl rfl (sp2 nofun) rfl rfl rfl rfl ?_; refine O _ (aN [7] rfl rfl ?_); clear O J K E; refine rgs fun E K J O => ?_; refine O _ (aN [6] rfl rfl ?_); clear O J K E; refine awp_ret ?_; simp only [stmtsL, eqW, bz, R.bind, h1, h2, hr2] at hG; subst hG; exact ⟨_, [0], _, [encL _], rfl, rfl, rfl, rfl, rfl, PWs.refl _, rfl⟩
   refine O _ (aN [0, 1, 2, 7, 21] rfl rfl ?_); clear O J K E; refine awp_cond rfl ?_; refine awp_exit ?_; refine rgs fun E K J O => ?_; show aCall _ _ _ _ _ _ _; refine aR [] rfl rfl rfl (nothing_spec _) rfl rfl rfl rfl ?_; refine O _ (aN [0, 7] rfl rfl ?_); clear O J K E; refine rgs fun E K J O => ?_; show aCall _ _ _ _ _ _ _; have sp2 := takeP_spec t u s ⟨#[125]⟩ q hs
   cases hr2 : takeF s ⟨#[125]⟩ q with
   | out =>
    simp only [stmtsL, eqW, bz, R.bind, h1, hr2] at hG; exact absurd hG.symm hne
   | bad q2 c2 =>
    rw [hr2] at sp2; refine aP [0] rfl rfl rfl (sp2 nofun) rfl rfl rfl rfl ?_; refine J _ _ ?_; simp only [stmtsL, eqW, bz, R.bind, h1, hr2] at hG; subst hG; exact ⟨[0, 2], _, rfl, rfl, rfl, rfl, rfl⟩
   | ok a2 q2 =>
    rw [hr2] at sp2; refine aR [0] rfl rfl rfl (sp2 nofun) rfl rfl rfl rfl ?_; refine O _ (aN [7] rfl rfl ?_); clear O J K E; refine rgs fun E K J O => ?_; refine O _ (aN [6] rfl rfl ?_); clear O J K E; refine awp_ret ?_; simp only [stmtsL, eqW, bz, R.bind, h1, hr2] at hG; subst hG; exact ⟨_, [0], _, [encL _], rfl, rfl, rfl, rfl, rfl, PWs.refl _, rfl⟩
def p197_25 : Plan := (.take 0 (.load 1 (.take 2 (.one 3 (.one 4 (.one 5 (.take 6 (.one 7 .done))))))))
def p197_36 : Plan := (.take 0 (.load 1 (.take 2 (.one 3 (.one 4 (.one 5 (.take 6 (.one 7 .done))))))))
def p197_34 : Plan := (.take 0 (.load 1 (.take 2 (.one 3 (.one 4 (.one 5 (.take 6 (.one 7 .done))))))))
theorem stmt_step (s : ByteArray) (hs4 : s.size ≤ 4000) (n : Nat) (hn : n ≤ 1000000) (ihB : ∀ m, m ≤ n → BlockOk t u s m) : StmtOk t u s (n + 1) := by
 intro d p hne; obtain ⟨r, hG⟩ : ∃ r, stmtF s (n + 1) d p = r := ⟨_, rfl⟩; rw [hG] at hne ⊢
 have hs : s.size < 4611686018427387904 := by omega
 refine spec_of_awp2 TT_ok (N := 124) Tryz.func197 rfl (by rfl) ((by cases r <;> simp [rowsR] at hne ⊢)) rfl ?_
 refine rgs fun E K J O => ?_; refine O _ (aN [0, 1, 4] rfl rfl ?_); clear O J K E; refine awp_seq ?_; refine rgs fun E K J O => ?_; refine O _ (aN [0, 1, 4, 5] rfl rfl ?_); clear O J K E; refine rgs fun E K J O => ?_; refine O _ (aN [0, 1, 4, 5, 14] rfl rfl ?_); clear O J K E; refine awp_block ?_; refine awp_seq ?_; refine rgs fun E K J O => ?_; refine O _ (aN [0, 1, 4, 5, 14, 15] rfl rfl ?_); clear O J K E; refine awp_cond2 rfl (onB_intro (fun h1 => ?_) (fun h1 => ?_))
 ·refine awp_skip ?_; refine awp_cond rfl ?_; refine rgs fun E K J O => ?_; show aCall _ _ _ _ _ _ _
  refine aR [0] rfl rfl rfl (nextP_spec _ s p hs) rfl rfl rfl rfl ?_; refine O _ (aN [0, 1, 4, 5] rfl rfl ?_); clear O J K E; refine rgs fun E K J O => ?_; show aCall _ _ _ _ _ _ _; have sp1 := condP_spec t u s hs4 n hn (nx s p)
  cases hr1 : condF s n (nx s p) with
  | out =>
   simp only [stmtF, eqW, bz, R.bind, h1, hr1] at hG; exact absurd hG.symm hne
  | bad q1 c1 =>
   rw [hr1] at sp1; refine aP [0] rfl rfl rfl (sp1 nofun) rfl rfl rfl rfl ?_; refine J _ _ ?_; simp only [stmtF, eqW, bz, R.bind, h1, hr1] at hG; subst hG; exact ⟨[0, 2], _, rfl, rfl, rfl, rfl, rfl⟩
  | ok a1 q1 =>
   rw [hr1] at sp1; refine aR [0] rfl rfl rfl (sp1 nofun) rfl rfl rfl rfl ?_; refine O _ (aN [0, 1, 4, 5, 6] rfl rfl ?_); clear O J K E; refine rgs fun E K J O => ?_; show aCall _ _ _ _ _ _ _; have sp2 := ihB n (by omega) (IntKind.i64.wrap (d + 1)) q1
   cases hr2 : blockF s n (IntKind.i64.wrap (d + 1)) q1 with
   | out =>
    simp only [stmtF, eqW, bz, R.bind, h1, hr1, hr2] at hG; exact absurd hG.symm hne
   | bad q2 c2 =>
    rw [hr2] at sp2; refine aP [0] rfl rfl rfl (sp2 nofun) rfl rfl rfl rfl ?_; refine J _ _ ?_; simp only [stmtF, eqW, bz, R.bind, h1, hr1, hr2] at hG; subst hG; exact ⟨[0, 3], _, rfl, rfl, rfl, rfl, rfl⟩
   | ok a2 q2 =>
    rw [hr2] at sp2; refine aR [0] rfl rfl rfl (sp2 nofun) rfl rfl rfl rfl ?_; refine O _ (aN [0, 1, 4, 5, 6] rfl rfl ?_); clear O J K E; refine awp_seq ?_; refine rgs fun E K J O => ?_; refine onB_intro (fun h2 => ?_) (fun h2 => ?_)
    ·show aCall _ _ _ _ _ _ _
     cases hr3 : (q2.w.toList == (⟨#[101, 108, 115, 101]⟩ : ByteArray).toList) with
     | true =>
      refine aR [0] rfl rfl rfl (hasP_yes (GV t u) s _ q2 hs hr3) rfl rfl rfl rfl ?_; refine O _ (aN [0, 1, 4, 6, 34] rfl rfl ?_); clear O J K E; refine awp_cond rfl ?_; refine rgn fun E K J O => ?_; show aCall _ _ _ _ _ _ _; have sp4 := ihB n (by omega) (IntKind.i64.wrap (d + 1)) (nx s q2)
      cases hr4 : blockF s n (IntKind.i64.wrap (d + 1)) (nx s q2) with
      | out =>
       simp only [stmtF, eqW, bz, R.bind, h1, hr1, hr2, hr3, hr4] at hG; exact absurd hG.symm hne
      | bad q4 c4 =>
       rw [hr4] at sp4; refine aP [0] rfl rfl rfl (sp4 nofun) rfl rfl rfl rfl ?_; refine J _ _ ?_; simp only [stmtF, eqW, bz, R.bind, h1, hr1, hr2, hr3, hr4] at hG; subst hG; exact ⟨[0, 3], _, rfl, rfl, rfl, rfl, rfl⟩
      | ok a4 q4 =>
       rw [hr4] at sp4; refine aR [0] rfl rfl rfl (sp4 nofun) rfl rfl rfl rfl ?_; refine O _ (aN [4, 6] rfl rfl ?_); clear O J K E; refine rgs fun E K J O => ?_; refine O _ (aN [4] rfl rfl ?_); clear O J K E; refine awp_ret ?_; simp only [stmtF, eqW, bz, R.bind, h1, hr1, hr2, hr3, hr4] at hG; subst hG; exact ⟨_, [0], _, [encM _], rfl, rfl, rfl, rfl, rfl, (by first | exact PWs.refl _ | (refine PWs.cons (PW.d ?_) PWs.nil; repeat (first | exact DW.refl _ | refine DW.agg ?_ | refine DWs.cons ?_ ?_ | exact DWs.nil | exact DW.nil _))), rfl⟩
     | false =>
      refine aR [0] rfl rfl rfl (hasP_no (GV t u) s _ q2 hr3) rfl rfl rfl rfl ?_; refine O _ (aN [0, 1, 4, 6, 34] rfl rfl ?_); clear O J K E; refine awp_cond rfl ?_; refine awp_skip ?_; refine rgs fun E K J O => ?_; refine O _ (aN [4] rfl rfl ?_); clear O J K E; refine awp_ret ?_; simp only [stmtF, eqW, bz, R.bind, h1, hr1, hr2, hr3] at hG; subst hG; exact ⟨_, [0], _, [encM _], rfl, rfl, rfl, rfl, rfl, (by first | exact PWs.refl _ | (refine PWs.cons (PW.d ?_) PWs.nil; repeat (first | exact DW.refl _ | refine DW.agg ?_ | refine DWs.cons ?_ ?_ | exact DWs.nil | exact DW.nil _))), rfl⟩
    exact absurd (h1.symm.trans h2) (by decide)
 refine rgn fun E K J O => ?_; refine O _ (aN [0, 1, 4, 5, 14, 15] rfl rfl ?_); clear O J K E; refine awp_cond2 rfl (onB_intro (fun h2 => ?_) (fun h2 => ?_))
 ·refine rgs fun E K J O => ?_; show aCall _ _ _ _ _ _ _
  refine aR [0] rfl rfl rfl (nextP_spec _ s p hs) rfl rfl rfl rfl ?_; refine O _ (aN [0, 1, 4, 5] rfl rfl ?_); clear O J K E; refine rgs fun E K J O => ?_; show aCall _ _ _ _ _ _ _; have sp1 := condP_spec t u s hs4 n hn (nx s p)
  cases hr1 : condF s n (nx s p) with
  | out =>
   simp only [stmtF, eqW, bz, R.bind, h1, h2, hr1] at hG; exact absurd hG.symm hne
  | bad q1 c1 =>
   rw [hr1] at sp1; refine aP [0] rfl rfl rfl (sp1 nofun) rfl rfl rfl rfl ?_; refine J _ _ ?_; simp only [stmtF, eqW, bz, R.bind, h1, h2, hr1] at hG; subst hG; exact ⟨[0, 2], _, rfl, rfl, rfl, rfl, rfl⟩
  | ok a1 q1 =>
   rw [hr1] at sp1; refine aR [0] rfl rfl rfl (sp1 nofun) rfl rfl rfl rfl ?_; refine O _ (aN [0, 1, 4, 5, 6] rfl rfl ?_); clear O J K E; refine rgs fun E K J O => ?_; show aCall _ _ _ _ _ _ _; have sp2 := ihB n (by omega) (IntKind.i64.wrap (d + 1)) q1
   cases hr2 : blockF s n (IntKind.i64.wrap (d + 1)) q1 with
   | out =>
    simp only [stmtF, eqW, bz, R.bind, h1, h2, hr1, hr2] at hG; exact absurd hG.symm hne
   | bad q2 c2 =>
    rw [hr2] at sp2; refine aP [0] rfl rfl rfl (sp2 nofun) rfl rfl rfl rfl ?_; refine J _ _ ?_; simp only [stmtF, eqW, bz, R.bind, h1, h2, hr1, hr2] at hG; subst hG; exact ⟨[0, 3], _, rfl, rfl, rfl, rfl, rfl⟩
   | ok a2 q2 =>
    rw [hr2] at sp2; refine aR [0] rfl rfl rfl (sp2 nofun) rfl rfl rfl rfl ?_; refine O _ (aN [0, 1, 4, 5, 6] rfl rfl ?_); clear O J K E; refine awp_seq ?_; refine rgs fun E K J O => ?_; refine onB_intro (fun h3 => ?_) (fun h3 => ?_)
    ·exact absurd (h1.symm.trans h3) (by decide)
    refine O _ (aN [0, 1, 4, 6, 34] rfl rfl ?_); clear O J K E; refine awp_cond rfl ?_; refine awp_skip ?_; refine rgs fun E K J O => ?_; refine O _ (aN [4] rfl rfl ?_); clear O J K E; refine awp_ret ?_; simp only [stmtF, eqW, bz, R.bind, h1, h2, hr1, hr2] at hG; subst hG; exact ⟨_, [0], _, [encM _], rfl, rfl, rfl, rfl, rfl, (by first | exact PWs.refl _ | (refine PWs.cons (PW.d ?_) PWs.nil; repeat (first | exact DW.refl _ | refine DW.agg ?_ | refine DWs.cons ?_ ?_ | exact DWs.nil | exact DW.nil _))), rfl⟩
 refine awp_seq ?_; refine rgs fun E K J O => ?_; refine O _ (aN [0, 4, 5, 14, 41] rfl rfl ?_); clear O J K E; refine awp_cond2 rfl (onB_intro (fun h3 => ?_) (fun h3 => ?_))
 ·refine awp_skip ?_; refine awp_cond rfl ?_; refine rgs fun E K J O => ?_; show aCall _ _ _ _ _ _ _
  refine aR [0] rfl rfl rfl (nextP_spec _ s p hs) rfl rfl rfl rfl ?_; refine O _ (aN [0, 4, 5] rfl rfl ?_); clear O J K E; refine rgs fun E K J O => ?_; show aCall _ _ _ _ _ _ _; have sp1 := condP_spec t u s hs4 n hn (nx s p)
  cases hr1 : condF s n (nx s p) with
  | out =>
   simp only [stmtF, eqW, bz, R.bind, h1, h2, h3, hr1] at hG; exact absurd hG.symm hne
  | bad q1 c1 =>
   rw [hr1] at sp1; refine aP [0] rfl rfl rfl (sp1 nofun) rfl rfl rfl rfl ?_; refine J _ _ ?_; simp only [stmtF, eqW, bz, R.bind, h1, h2, h3, hr1] at hG; subst hG; exact ⟨[0, 2], _, rfl, rfl, rfl, rfl, rfl⟩
  | ok a1 q1 =>
   rw [hr1] at sp1; refine aR [0] rfl rfl rfl (sp1 nofun) rfl rfl rfl rfl ?_; refine O _ (aN [0, 4, 7] rfl rfl ?_); clear O J K E; refine rgs fun E K J O => ?_; show aCall _ _ _ _ _ _ _; have sp2 := takeP_spec t u s ⟨#[59]⟩ q1 hs
   cases hr2 : takeF s ⟨#[59]⟩ q1 with
   | out =>
    simp only [stmtF, eqW, bz, R.bind, h1, h2, h3, hr1, hr2] at hG; exact absurd hG.symm hne
   | bad q2 c2 =>
    rw [hr2] at sp2; refine aP [0] rfl rfl rfl (sp2 nofun) rfl rfl rfl rfl ?_; refine J _ _ ?_; simp only [stmtF, eqW, bz, R.bind, h1, h2, h3, hr1, hr2] at hG; subst hG; exact ⟨[0, 3], _, rfl, rfl, rfl, rfl, rfl⟩
   | ok a2 q2 =>
    rw [hr2] at sp2; refine aR [0] rfl rfl rfl (sp2 nofun) rfl rfl rfl rfl ?_; refine O _ (aN [4, 7] rfl rfl ?_); clear O J K E; refine rgs fun E K J O => ?_; refine O _ (aN [4] rfl rfl ?_); clear O J K E; refine awp_ret ?_; simp only [stmtF, eqW, bz, R.bind, h1, h2, h3, hr1, hr2] at hG; subst hG; exact ⟨_, [0], _, [encM _], rfl, rfl, rfl, rfl, rfl, (by first | exact PWs.refl _ | (refine PWs.cons (PW.d ?_) PWs.nil; repeat (first | exact DW.refl _ | refine DW.agg ?_ | refine DWs.cons ?_ ?_ | exact DWs.nil | exact DW.nil _))), rfl⟩
 refine rgn fun E K J O => ?_; refine O _ (aN [0, 4, 5, 14, 41] rfl rfl ?_); clear O J K E; refine awp_cond2 rfl (onB_intro (fun h4 => ?_) (fun h4 => ?_))
 ·refine rgs fun E K J O => ?_; show aCall _ _ _ _ _ _ _
  refine aR [0] rfl rfl rfl (nextP_spec _ s p hs) rfl rfl rfl rfl ?_; refine O _ (aN [0, 4, 5] rfl rfl ?_); clear O J K E; refine rgs fun E K J O => ?_; show aCall _ _ _ _ _ _ _; have sp1 := condP_spec t u s hs4 n hn (nx s p)
  cases hr1 : condF s n (nx s p) with
  | out =>
   simp only [stmtF, eqW, bz, R.bind, h1, h2, h3, h4, hr1] at hG; exact absurd hG.symm hne
  | bad q1 c1 =>
   rw [hr1] at sp1; refine aP [0] rfl rfl rfl (sp1 nofun) rfl rfl rfl rfl ?_; refine J _ _ ?_; simp only [stmtF, eqW, bz, R.bind, h1, h2, h3, h4, hr1] at hG; subst hG; exact ⟨[0, 2], _, rfl, rfl, rfl, rfl, rfl⟩
  | ok a1 q1 =>
   rw [hr1] at sp1; refine aR [0] rfl rfl rfl (sp1 nofun) rfl rfl rfl rfl ?_; refine O _ (aN [0, 4, 7] rfl rfl ?_); clear O J K E; refine rgs fun E K J O => ?_; show aCall _ _ _ _ _ _ _; have sp2 := takeP_spec t u s ⟨#[59]⟩ q1 hs
   cases hr2 : takeF s ⟨#[59]⟩ q1 with
   | out =>
    simp only [stmtF, eqW, bz, R.bind, h1, h2, h3, h4, hr1, hr2] at hG; exact absurd hG.symm hne
   | bad q2 c2 =>
    rw [hr2] at sp2; refine aP [0] rfl rfl rfl (sp2 nofun) rfl rfl rfl rfl ?_; refine J _ _ ?_; simp only [stmtF, eqW, bz, R.bind, h1, h2, h3, h4, hr1, hr2] at hG; subst hG; exact ⟨[0, 3], _, rfl, rfl, rfl, rfl, rfl⟩
   | ok a2 q2 =>
    rw [hr2] at sp2; refine aR [0] rfl rfl rfl (sp2 nofun) rfl rfl rfl rfl ?_; refine O _ (aN [4, 7] rfl rfl ?_); clear O J K E; refine rgs fun E K J O => ?_; refine O _ (aN [4] rfl rfl ?_); clear O J K E; refine awp_ret ?_; simp only [stmtF, eqW, bz, R.bind, h1, h2, h3, h4, hr1, hr2] at hG; subst hG; exact ⟨_, [0], _, [encM _], rfl, rfl, rfl, rfl, rfl, (by first | exact PWs.refl _ | (refine PWs.cons (PW.d ?_) PWs.nil; repeat (first | exact DW.refl _ | refine DW.agg ?_ | refine DWs.cons ?_ ?_ | exact DWs.nil | exact DW.nil _))), rfl⟩
 refine rgs fun E K J O => ?_; refine O _ (aN [0, 4, 5, 53] rfl rfl ?_); clear O J K E; refine awp_cond2 rfl (onB_intro (fun h5 => ?_) (fun h5 => ?_))
 ·refine rgs fun E K J O => ?_; show aCall _ _ _ _ _ _ _
  refine aR [0] rfl rfl rfl (nextP_spec _ s p hs) rfl rfl rfl rfl ?_; refine O _ (aN [0, 4, 5] rfl rfl ?_); clear O J K E; refine rgs fun E K J O => ?_; show aCall _ _ _ _ _ _ _; have sp1 := nameP_spec t u s (nx s p) hs
  cases hr1 : nameF s (nx s p) with
  | out =>
   simp only [stmtF, eqW, bz, R.bind, h1, h2, h3, h4, h5, hr1] at hG; exact absurd hG.symm hne
  | bad q1 c1 =>
   rw [hr1] at sp1; refine aP [0] rfl rfl rfl (sp1 nofun) rfl rfl rfl rfl ?_; refine J _ _ ?_; simp only [stmtF, eqW, bz, R.bind, h1, h2, h3, h4, h5, hr1] at hG; subst hG; exact ⟨[0, 2], _, rfl, rfl, rfl, rfl, rfl⟩
  | ok a1 q1 =>
   rw [hr1] at sp1; refine aR [0] rfl rfl rfl (sp1 nofun) rfl rfl rfl rfl ?_; refine O _ (aN [0, 4, 8] rfl rfl ?_); clear O J K E; refine rgs fun E K J O => ?_; show aCall _ _ _ _ _ _ _; have sp2 := takeP_spec t u s ⟨#[59]⟩ q1 hs
   cases hr2 : takeF s ⟨#[59]⟩ q1 with
   | out =>
    simp only [stmtF, eqW, bz, R.bind, h1, h2, h3, h4, h5, hr1, hr2] at hG; exact absurd hG.symm hne
   | bad q2 c2 =>
    rw [hr2] at sp2; refine aP [0] rfl rfl rfl (sp2 nofun) rfl rfl rfl rfl ?_; refine J _ _ ?_; simp only [stmtF, eqW, bz, R.bind, h1, h2, h3, h4, h5, hr1, hr2] at hG; subst hG; exact ⟨[0, 3], _, rfl, rfl, rfl, rfl, rfl⟩
   | ok a2 q2 =>
    rw [hr2] at sp2; refine aR [0] rfl rfl rfl (sp2 nofun) rfl rfl rfl rfl ?_; refine O _ (aN [4, 8] rfl rfl ?_); clear O J K E; refine rgs fun E K J O => ?_; refine O _ (aN [4] rfl rfl ?_); clear O J K E; refine awp_ret ?_; simp only [stmtF, eqW, bz, R.bind, h1, h2, h3, h4, h5, hr1, hr2] at hG; subst hG; exact ⟨_, [0], _, [encM _], rfl, rfl, rfl, rfl, rfl, (by first | exact PWs.refl _ | (refine PWs.cons (PW.d ?_) PWs.nil; repeat (first | exact DW.refl _ | refine DW.agg ?_ | refine DWs.cons ?_ ?_ | exact DWs.nil | exact DW.nil _))), rfl⟩
 refine awp_skip ?_; refine rgs fun E K J O => ?_; show aCall _ _ _ _ _ _ _; have sp1 := nameP_spec t u s p hs
 cases hr1 : nameF s p with
 | out =>
  simp only [stmtF, eqW, bz, R.bind, h1, h2, h3, h4, h5, hr1] at hG; exact absurd hG.symm hne
 | bad q1 c1 =>
  rw [hr1] at sp1; refine aP [0] rfl rfl rfl (sp1 nofun) rfl rfl rfl rfl ?_; refine J _ _ ?_; simp only [stmtF, eqW, bz, R.bind, h1, h2, h3, h4, h5, hr1] at hG; subst hG; exact ⟨[0, 2], _, rfl, rfl, rfl, rfl, rfl⟩
 | ok a1 q1 =>
  rw [hr1] at sp1; refine aR [0] rfl rfl rfl (sp1 nofun) rfl rfl rfl rfl ?_; refine O _ (aN [0, 4, 9] rfl rfl ?_); clear O J K E; refine awp_accCell 2 3 157 4 rfl rfl rfl rfl ?_; refine awp_norm [0, 4, 9] rfl rfl ?_; refine awp_seq ?_; refine rgs fun E K J O => ?_; show aCall _ _ _ _ _ _ _
  cases hr2 : (q1.w.toList == (⟨#[91]⟩ : ByteArray).toList) with
  | true =>
   refine aR [0] rfl rfl rfl (hasP_yes (GV t u) s _ q1 hs hr2) rfl rfl rfl rfl ?_; refine O _ (aN [0, 4, 9, 68] rfl rfl ?_); clear O J K E; refine awp_cond rfl ?_; refine rgs fun E K J O => ?_; refine O _ (aN [0, 4, 9] rfl rfl ?_); clear O J K E; refine awp_seq ?_; refine (awp_draw TT_ok mixed p197_25 [7] (fun i => Nat.beq i 2) (by kernel_rfl) fun E K J O => ?_)
   show aCall _ _ _ _ _ _ _
   have sp3 := termP_spec t u s hs4 n 1 (nx s q1)
   cases hr3 : termF s n 1 (nx s q1) with
   | out =>
    simp only [stmtF, eqW, bz, R.bind, h1, h2, h3, h4, h5, hr1, hr2, hr3] at hG; exact absurd hG.symm hne
   | bad q3 c3 =>
    rw [hr3] at sp3; refine aP [0] rfl rfl rfl (sp3 nofun) rfl rfl rfl rfl ?_; refine J _ _ ?_; simp only [stmtF, eqW, bz, R.bind, h1, h2, h3, h4, h5, hr1, hr2, hr3] at hG; subst hG; exact ⟨[0, 4], _, rfl, rfl, rfl, rfl, rfl⟩
   | ok a3 q3 =>
    obtain ⟨o3, n3, m3, l3⟩ := a3; rw [hr3] at sp3; refine aR [0] rfl rfl rfl (sp3 nofun) rfl rfl rfl rfl ?_; refine And.intro (And.intro (by simp only [chunk_length, List.length_nil]; omega) (by simp only [chunk_length, List.length_nil, maxLen_eq]; omega)) ?_; refine O _ (aN [0, 4, 9] rfl rfl ?_); clear O J K E; refine rgn fun E K J O => ?_; show aCall _ _ _ _ _ _ _; have sp4 := takeP_spec t u s ⟨#[93]⟩ q3 hs
    cases hr4 : takeF s ⟨#[93]⟩ q3 with
    | out =>
     simp only [stmtF, eqW, bz, R.bind, h1, h2, h3, h4, h5, hr1, hr2, hr3, hr4] at hG; exact absurd hG.symm hne
    | bad q4 c4 =>
     rw [hr4] at sp4; refine aP [0] rfl rfl rfl (sp4 nofun) rfl rfl rfl rfl ?_; refine J _ _ ?_; simp only [stmtF, eqW, bz, R.bind, h1, h2, h3, h4, h5, hr1, hr2, hr3, hr4] at hG; subst hG; exact ⟨[0, 4], _, rfl, rfl, rfl, rfl, rfl⟩
    | ok a4 q4 =>
     rw [hr4] at sp4; refine aR [0] rfl rfl rfl (sp4 nofun) rfl rfl rfl rfl ?_; refine O _ (aN [0, 4, 9] rfl rfl ?_); clear O J K E; refine rgs fun E K J O => ?_; show aCall _ _ _ _ _ _ _; have sp5 := takeP_spec t u s ⟨#[61]⟩ q4 hs
     cases hr5 : takeF s ⟨#[61]⟩ q4 with
     | out =>
      simp only [stmtF, eqW, bz, R.bind, h1, h2, h3, h4, h5, hr1, hr2, hr3, hr4, hr5] at hG; exact absurd hG.symm hne
     | bad q5 c5 =>
      rw [hr5] at sp5; refine aP [0] rfl rfl rfl (sp5 nofun) rfl rfl rfl rfl ?_; refine J _ _ ?_; simp only [stmtF, eqW, bz, R.bind, h1, h2, h3, h4, h5, hr1, hr2, hr3, hr4, hr5] at hG; subst hG; exact ⟨[0, 4], _, rfl, rfl, rfl, rfl, rfl⟩
     | ok a5 q5 =>
      rw [hr5] at sp5; refine aR [0] rfl rfl rfl (sp5 nofun) rfl rfl rfl rfl ?_; refine O _ (aN [0, 4, 9] rfl rfl ?_); clear O J K E; refine awp_seq ?_; refine rgs fun E K J O => ?_; refine onB_intro (fun h6 => ?_) (fun h6 => ?_)
      ·exact absurd h6 (by simp only [ByteArray.toList_eq]; decide)
      refine O _ (aN [0, 4, 9, 87] rfl rfl ?_); clear O J K E; refine awp_cond rfl ?_; refine (awp_draw TT_ok mixed p197_36 [7] (fun i => Nat.beq i 2) (by kernel_rfl) fun E K J O => ?_)
      show aCall _ _ _ _ _ _ _
      have sp6 := termP_spec t u s hs4 n 1 q5
      cases hr6 : termF s n 1 q5 with
      | out =>
       simp only [stmtF, eqW, bz, R.bind, h1, h2, h3, h4, h5, hr1, hr2, hr3, hr4, hr5, hr6] at hG; exact absurd hG.symm hne
      | bad q6 c6 =>
       rw [hr6] at sp6; refine aP [0] rfl rfl rfl (sp6 nofun) rfl rfl rfl rfl ?_; refine J _ _ ?_; simp only [stmtF, eqW, bz, R.bind, h1, h2, h3, h4, h5, hr1, hr2, hr3, hr4, hr5, hr6] at hG; subst hG; exact ⟨[0, 4], _, rfl, rfl, rfl, rfl, rfl⟩
      | ok a6 q6 =>
       obtain ⟨o6, n6, m6, l6⟩ := a6; rw [hr6] at sp6; refine aR [0] rfl rfl rfl (sp6 nofun) rfl rfl rfl rfl ?_; refine And.intro (And.intro (by simp only [chunk_length, List.length_append, List.length_nil]; omega) (by simp only [chunk_length, List.length_append, List.length_nil, maxLen_eq]; omega)) ?_; refine O _ (aN [0, 4, 9] rfl rfl ?_); clear O J K E; refine rgs fun E K J O => ?_; show aCall _ _ _ _ _ _ _; have sp7 := takeP_spec t u s ⟨#[59]⟩ q6 hs
       cases hr7 : takeF s ⟨#[59]⟩ q6 with
       | out =>
        simp only [stmtF, eqW, bz, R.bind, h1, h2, h3, h4, h5, hr1, hr2, hr3, hr4, hr5, hr6, hr7] at hG; exact absurd hG.symm hne
       | bad q7 c7 =>
        rw [hr7] at sp7; refine aP [0] rfl rfl rfl (sp7 nofun) rfl rfl rfl rfl ?_; refine J _ _ ?_; simp only [stmtF, eqW, bz, R.bind, h1, h2, h3, h4, h5, hr1, hr2, hr3, hr4, hr5, hr6, hr7] at hG; subst hG; exact ⟨[0, 4], _, rfl, rfl, rfl, rfl, rfl⟩
       | ok a7 q7 =>
        rw [hr7] at sp7; refine aR [0] rfl rfl rfl (sp7 nofun) rfl rfl rfl rfl ?_; refine O _ (aN [4, 9] rfl rfl ?_); clear O J K E; refine rgs fun E K J O => ?_; refine O _ (aN [4] rfl rfl ?_); clear O J K E; refine awp_ret ?_; simp only [stmtF, eqW, bz, R.bind, h1, h2, h3, h4, h5, hr1, hr2, hr3, hr4, hr5, hr6, hr7] at hG; subst hG; exact ⟨_, [0], _, [encM _], rfl, rfl, rfl, rfl, rfl, (by first | exact PWs.refl _ | (refine PWs.cons (PW.d ?_) PWs.nil; repeat (first | exact DW.refl _ | refine DW.agg ?_ | refine DWs.cons ?_ ?_ | exact DWs.nil | exact DW.nil _))), rfl⟩
  | false =>
   refine aR [0] rfl rfl rfl (hasP_no (GV t u) s _ q1 hr2) rfl rfl rfl rfl ?_; refine O _ (aN [0, 4, 9, 68] rfl rfl ?_); clear O J K E; refine awp_cond rfl ?_; refine awp_skip ?_; refine rgs fun E K J O => ?_; show aCall _ _ _ _ _ _ _; have sp3 := takeP_spec t u s ⟨#[61]⟩ q1 hs
   cases hr3 : takeF s ⟨#[61]⟩ q1 with
   | out =>
    simp only [stmtF, eqW, bz, R.bind, h1, h2, h3, h4, h5, hr1, hr2, hr3] at hG; exact absurd hG.symm hne
   | bad q3 c3 =>
    rw [hr3] at sp3; refine aP [0] rfl rfl rfl (sp3 nofun) rfl rfl rfl rfl ?_; refine J _ _ ?_; simp only [stmtF, eqW, bz, R.bind, h1, h2, h3, h4, h5, hr1, hr2, hr3] at hG; subst hG; exact ⟨[0, 4], _, rfl, rfl, rfl, rfl, rfl⟩
   | ok a3 q3 =>
    rw [hr3] at sp3; refine aR [0] rfl rfl rfl (sp3 nofun) rfl rfl rfl rfl ?_; refine O _ (aN [0, 4, 9] rfl rfl ?_); clear O J K E; refine awp_seq ?_; refine rgs fun E K J O => ?_; refine onB_intro (fun h6 => ?_) (fun h6 => ?_)
    ·show aCall _ _ _ _ _ _ _
     cases hr4 : (q3.w.toList == (⟨#[99, 97, 108, 108]⟩ : ByteArray).toList) with
     | true =>
      refine aR [0] rfl rfl rfl (hasP_yes (GV t u) s _ q3 hs hr4) rfl rfl rfl rfl ?_; refine O _ (aN [0, 4, 9, 87] rfl rfl ?_); clear O J K E; refine awp_cond rfl ?_; refine rgs fun E K J O => ?_; show aCall _ _ _ _ _ _ _; have sp5 := nameP_spec t u s (nx s q3) hs
      cases hr5 : nameF s (nx s q3) with
      | out =>
       simp only [stmtF, eqW, bz, R.bind, h1, h2, h3, h4, h5, hr1, hr2, hr3, hr4, hr5] at hG; exact absurd hG.symm hne
      | bad q5 c5 =>
       rw [hr5] at sp5; refine aP [0] rfl rfl rfl (sp5 nofun) rfl rfl rfl rfl ?_; refine J _ _ ?_; simp only [stmtF, eqW, bz, R.bind, h1, h2, h3, h4, h5, hr1, hr2, hr3, hr4, hr5] at hG; subst hG; exact ⟨[0, 4], _, rfl, rfl, rfl, rfl, rfl⟩
      | ok a5 q5 =>
       rw [hr5] at sp5; refine aR [0] rfl rfl rfl (sp5 nofun) rfl rfl rfl rfl ?_; refine O _ (aN [0, 4, 9] rfl rfl ?_); clear O J K E; refine rgs fun E K J O => ?_; show aCall _ _ _ _ _ _ _; have sp6 := takeP_spec t u s ⟨#[40]⟩ q5 hs
       cases hr6 : takeF s ⟨#[40]⟩ q5 with
       | out =>
        simp only [stmtF, eqW, bz, R.bind, h1, h2, h3, h4, h5, hr1, hr2, hr3, hr4, hr5, hr6] at hG; exact absurd hG.symm hne
       | bad q6 c6 =>
        rw [hr6] at sp6; refine aP [0] rfl rfl rfl (sp6 nofun) rfl rfl rfl rfl ?_; refine J _ _ ?_; simp only [stmtF, eqW, bz, R.bind, h1, h2, h3, h4, h5, hr1, hr2, hr3, hr4, hr5, hr6] at hG; subst hG; exact ⟨[0, 4], _, rfl, rfl, rfl, rfl, rfl⟩
       | ok a6 q6 =>
        rw [hr6] at sp6; refine aR [0] rfl rfl rfl (sp6 nofun) rfl rfl rfl rfl ?_; refine O _ (aN [0, 4, 9] rfl rfl ?_); clear O J K E; refine awp_seq ?_; refine awp_block ?_; simp only [stmtF, eqW, bz, R.bind, h1, h2, h3, h4, h5, hr1, hr2, hr3, hr4, hr5, hr6] at hG; clear hr1 hr2 hr3 hr4 hr5 hr6; refine awp_loop (fun k Y => ∃ acc q, acc.length + k ≤ n ∧ ((argsL s k acc q).bind fun l q => (takeF s ⟨#[59]⟩ q).bind fun _ q => .ok (.mk ⟨#[99, 97, 108, 108]⟩ a1 a5 l [] [] []) q) = r ∧ Y = ⟨[(0, .box 0 0), (4, .box 1 0), (9, .box 2 0)], [rd s q, .box 217 zS, .box 217 [.d (str ⟨#[99, 97, 108, 108]⟩), .d (str a1), .d (str a5), .acc 3, nilC, nilC, nilC], .acc 157 4 (exs acc)]⟩) (n) (⟨[], _, by simp, hG, rfl⟩) ?_; clear hG; rintro k Y ⟨acc, q, hk, hG, rfl⟩
        cases k with
        | zero => simp only [argsL, R.bind] at hG; exact absurd hG.symm hne
        | succ m =>
         refine awp_seq ?_; refine rgs fun E K J O => ?_; refine O _ (aN [0, 4, 9, 98] rfl rfl ?_); clear O J K E; refine awp_cond2 rfl (onB_intro (fun h7 => ?_) (fun h7 => ?_))
         ·refine awp_skip ?_; refine awp_block ?_; refine awp_seq ?_; refine rgs fun E K J O => ?_; refine O _ (aN [0, 4, 9, 102] rfl rfl ?_); clear O J K E
          refine awp_cond2 rfl (onB_intro (fun h8 => ?_) (fun h8 => ?_))
          ·rw [exs_length] at h8
           refine rgn fun E K J O => ?_; show aCall _ _ _ _ _ _ _; have sp11 := takeP_spec t u s ⟨#[44]⟩ q hs
           cases hr11 : takeF s ⟨#[44]⟩ q with
           | out =>
            simp only [argsL, eqW, R.bind, h7, h8, hr11] at hG; exact absurd hG.symm hne
           | bad q11 c11 =>
            rw [hr11] at sp11; refine aP [0] rfl rfl rfl (sp11 nofun) rfl rfl rfl rfl ?_; refine J _ _ ?_; simp only [argsL, eqW, R.bind, h7, h8, hr11] at hG; subst hG; exact ⟨[0, 4], _, rfl, rfl, rfl, rfl, rfl⟩
           | ok a11 q11 =>
            rw [hr11] at sp11; refine aR [0] rfl rfl rfl (sp11 nofun) rfl rfl rfl rfl ?_; refine O _ (aN [0, 4, 9] rfl rfl ?_); clear O J K E; refine (awp_draw TT_ok mixed p197_34 [7] (fun i => Nat.beq i 2) (by kernel_rfl) fun E K J O => ?_)
            show aCall _ _ _ _ _ _ _
            have sp12 := termP_spec t u s hs4 m 1 q11
            cases hr12 : termF s m 1 q11 with
            | out =>
             simp only [argsL, eqW, R.bind, h7, h8, hr11, hr12] at hG; exact absurd hG.symm hne
            | bad q12 c12 =>
             rw [hr12] at sp12; refine aP [0] rfl rfl rfl (sp12 nofun) rfl rfl rfl rfl ?_; refine J _ _ ?_; simp only [argsL, eqW, R.bind, h7, h8, hr11, hr12] at hG; subst hG; exact ⟨[0, 4], _, rfl, rfl, rfl, rfl, rfl⟩
            | ok a12 q12 =>
             obtain ⟨o12, n12, m12, l12⟩ := a12; rw [hr12] at sp12; refine aR [0] rfl rfl rfl (sp12 nofun) rfl rfl rfl rfl ?_; refine And.intro (And.intro (by simp only [chunk_length, exs_length]; omega) (by simp only [chunk_length, exs_length, maxLen_eq]; omega)) ?_; refine O _ ?_; clear O J K E; simp only [argsL, eqW, R.bind, h7, h8, hr11, hr12] at hG; exact ⟨m, Nat.lt_succ_self m, _, sub_norm (slots := [0, 4, 9]) rfl rfl, _, _, by simp only [List.length_append, List.length_cons, List.length_nil]; omega, hG, by rw [← exs_snoc]; rfl⟩
          rw [exs_length] at h8; refine awp_skip ?_; refine (awp_draw TT_ok mixed p197_34 [7] (fun i => Nat.beq i 2) (by kernel_rfl) fun E K J O => ?_)
          show aCall _ _ _ _ _ _ _
          have sp11 := termP_spec t u s hs4 m 1 q
          cases hr11 : termF s m 1 q with
          | out =>
           simp only [argsL, eqW, R.bind, h7, h8, hr11] at hG; exact absurd hG.symm hne
          | bad q11 c11 =>
           rw [hr11] at sp11; refine aP [0] rfl rfl rfl (sp11 nofun) rfl rfl rfl rfl ?_; refine J _ _ ?_; simp only [argsL, eqW, R.bind, h7, h8, hr11] at hG; subst hG; exact ⟨[0, 4], _, rfl, rfl, rfl, rfl, rfl⟩
          | ok a11 q11 =>
           obtain ⟨o11, n11, m11, l11⟩ := a11; rw [hr11] at sp11; refine aR [0] rfl rfl rfl (sp11 nofun) rfl rfl rfl rfl ?_; refine And.intro (And.intro (by simp only [chunk_length, exs_length]; omega) (by simp only [chunk_length, exs_length, maxLen_eq]; omega)) ?_; refine O _ ?_; clear O J K E; simp only [argsL, eqW, R.bind, h7, h8, hr11] at hG; exact ⟨m, Nat.lt_succ_self m, _, sub_norm (slots := [0, 4, 9]) rfl rfl, _, _, by simp only [List.length_append, List.length_cons, List.length_nil]; omega, hG, by rw [← exs_snoc]; rfl⟩
         refine awp_exit ?_; refine rgn fun E K J O => ?_; show aCall _ _ _ _ _ _ _; refine aR [0] rfl rfl rfl (nextP_spec _ s q hs) rfl rfl rfl rfl ?_; refine O _ (aN [0, 4, 9] rfl rfl ?_); clear O J K E; refine rgs fun E K J O => ?_; show aCall _ _ _ _ _ _ _; have sp11 := takeP_spec t u s ⟨#[59]⟩ (nx s q) hs
         cases hr11 : takeF s ⟨#[59]⟩ (nx s q) with
         | out =>
          simp only [argsL, eqW, R.bind, h7, hr11] at hG; exact absurd hG.symm hne
         | bad q11 c11 =>
          rw [hr11] at sp11; refine aP [0] rfl rfl rfl (sp11 nofun) rfl rfl rfl rfl ?_; refine J _ _ ?_; simp only [argsL, eqW, R.bind, h7, hr11] at hG; subst hG; exact ⟨[0, 4], _, rfl, rfl, rfl, rfl, rfl⟩
         | ok a11 q11 =>
          rw [hr11] at sp11; refine aR [0] rfl rfl rfl (sp11 nofun) rfl rfl rfl rfl ?_; refine O _ (aN [4, 9] rfl rfl ?_); clear O J K E; refine rgs fun E K J O => ?_; refine O _ (aN [4] rfl rfl ?_); clear O J K E; refine awp_ret ?_; simp only [argsL, eqW, R.bind, h7, hr11] at hG; subst hG; exact ⟨_, [0], _, [encM _], rfl, rfl, rfl, rfl, rfl, (by first | exact PWs.refl _ | (refine PWs.cons (PW.d ?_) PWs.nil; repeat (first | exact DW.refl _ | refine DW.agg ?_ | refine DWs.cons ?_ ?_ | exact DWs.nil | exact DW.nil _))), rfl⟩
     | false =>
      refine aR [0] rfl rfl rfl (hasP_no (GV t u) s _ q3 hr4) rfl rfl rfl rfl ?_; refine O _ (aN [0, 4, 9, 87] rfl rfl ?_); clear O J K E; refine awp_cond rfl ?_; refine (awp_draw TT_ok mixed p197_36 [7] (fun i => Nat.beq i 2) (by kernel_rfl) fun E K J O => ?_)
      show aCall _ _ _ _ _ _ _
      have sp5 := termP_spec t u s hs4 n 1 q3
      cases hr5 : termF s n 1 q3 with
      | out =>
       simp only [stmtF, eqW, bz, R.bind, h1, h2, h3, h4, h5, hr1, hr2, hr3, hr4, hr5] at hG; exact absurd hG.symm hne
      | bad q5 c5 =>
       rw [hr5] at sp5; refine aP [0] rfl rfl rfl (sp5 nofun) rfl rfl rfl rfl ?_; refine J _ _ ?_; simp only [stmtF, eqW, bz, R.bind, h1, h2, h3, h4, h5, hr1, hr2, hr3, hr4, hr5] at hG; subst hG; exact ⟨[0, 4], _, rfl, rfl, rfl, rfl, rfl⟩
      | ok a5 q5 =>
       obtain ⟨o5, n5, m5, l5⟩ := a5; rw [hr5] at sp5; refine aR [0] rfl rfl rfl (sp5 nofun) rfl rfl rfl rfl ?_; refine And.intro (And.intro (by simp only [chunk_length, List.length_nil]; omega) (by simp only [chunk_length, List.length_nil, maxLen_eq]; omega)) ?_; refine O _ (aN [0, 4, 9] rfl rfl ?_); clear O J K E; refine rgs fun E K J O => ?_; show aCall _ _ _ _ _ _ _; have sp6 := takeP_spec t u s ⟨#[59]⟩ q5 hs
       cases hr6 : takeF s ⟨#[59]⟩ q5 with
       | out =>
        simp only [stmtF, eqW, bz, R.bind, h1, h2, h3, h4, h5, hr1, hr2, hr3, hr4, hr5, hr6] at hG; exact absurd hG.symm hne
       | bad q6 c6 =>
        rw [hr6] at sp6; refine aP [0] rfl rfl rfl (sp6 nofun) rfl rfl rfl rfl ?_; refine J _ _ ?_; simp only [stmtF, eqW, bz, R.bind, h1, h2, h3, h4, h5, hr1, hr2, hr3, hr4, hr5, hr6] at hG; subst hG; exact ⟨[0, 4], _, rfl, rfl, rfl, rfl, rfl⟩
       | ok a6 q6 =>
        rw [hr6] at sp6; refine aR [0] rfl rfl rfl (sp6 nofun) rfl rfl rfl rfl ?_; refine O _ (aN [4, 9] rfl rfl ?_); clear O J K E; refine rgs fun E K J O => ?_; refine O _ (aN [4] rfl rfl ?_); clear O J K E; refine awp_ret ?_; simp only [stmtF, eqW, bz, R.bind, h1, h2, h3, h4, h5, hr1, hr2, hr3, hr4, hr5, hr6] at hG; subst hG; exact ⟨_, [0], _, [encM _], rfl, rfl, rfl, rfl, rfl, (by first | exact PWs.refl _ | (refine PWs.cons (PW.d ?_) PWs.nil; repeat (first | exact DW.refl _ | refine DW.agg ?_ | refine DWs.cons ?_ ?_ | exact DWs.nil | exact DW.nil _))), rfl⟩
    exact absurd h6 (by simp only [ByteArray.toList_eq]; decide)
theorem stmts_ok (s : ByteArray) (hs4 : s.size ≤ 4000) : ∀ n, n ≤ 1000000 → StmtOk t u s n ∧ BlockOk t u s n := by
 intro n
 induction n using Nat.strongRecOn with
 | _ n ih =>
  intro hn
  cases n with
  | zero => exact ⟨fun d p h => absurd (by simp only [stmtF]) h, fun d p h => absurd (by simp only [blockF]) h⟩
  | succ n => exact ⟨stmt_step t u s hs4 n (by omega) fun m hm => (ih m (by omega) (by omega)).2, block_step t u s hs4 n (by omega) fun m hm => (ih m (by omega) (by omega)).1⟩
theorem stmtP_spec (s : ByteArray) (hs4 : s.size ≤ 4000) (n : Nat) (hn : n ≤ 1000000) : StmtOk t u s n := (stmts_ok t u s hs4 n hn).1
theorem blockP_spec (s : ByteArray) (hs4 : s.size ≤ 4000) (n : Nat) (hn : n ≤ 1000000) : BlockOk t u s n := (stmts_ok t u s hs4 n hn).2
end
end Go.Abs
end
section
namespace Go.Abs
open Go Go.Proofs
attribute [local irreducible] aCall AWp Sub Spec
inductive R2 (s : ByteArray) where
 | ok (e : Ex) (p : PS s)
 | bad (oe : Option Ex) (p : PS s) (c : Nat)
 | out
def retF (s : ByteArray) (n : Nat) (p : PS s) : R2 s := match takeF s ⟨#[114, 101, 116, 117, 114, 110]⟩ p with
 | .bad q c => .bad none q c
 | .out => .out
 | .ok _ q => match termF s n 1 q with
  | .bad q c => .bad none q c
  | .out => .out
  | .ok e q => match takeF s ⟨#[59]⟩ q with
   | .bad q c => .bad (some e) q c
   | .out => .out
   | .ok _ q => .ok e q
def retC : Option Ex → List PV
 | none => zE
 | some (.mk o n m l) => cE o n m l
inductive R3 (s : ByteArray) where
 | ok (l : List Sm) (e : Ex) (p : PS s)
 | bad (oe : Option Ex) (p : PS s) (c : Nat)
 | out
def blockQ (s : ByteArray) (n : Nat) (d : Int) (p : PS s) : R3 s := match takeF s ⟨#[123]⟩ p with
 | .bad q c => .bad none q c
 | .out => .out
 | .ok _ q => match stmtsL s n d [] q with
  | .bad q c => .bad none q c
  | .out => .out
  | .ok l q => match retF s n q with
   | .bad oe q c => .bad oe q c
   | .out => .out
   | .ok e q => match takeF s ⟨#[125]⟩ q with
    | .bad q c => .bad (some e) q c
    | .out => .out
    | .ok _ q => .ok l e q
section
variable (t : Nat → TypeId) (u : Nat → Value)
def boxP (nm : ByteArray) (x : Data) (oe : Option Ex) : Row := .box 159 (.d (str nm) :: .d x :: nilC :: retC oe)
def out2 {s : ByteArray} : R2 s → Out
 | .ok _ _ => .ret (.tup [])
 | _ => .pan (.ifc 128 (.box 3 0))
def rows2 {s : ByteArray} (nm : ByteArray) (x : Data) : R2 s → List Row
 | .ok e q => [rd s q, .box 130 [.box 0 0], boxP nm x (some e)]
 | .bad oe q c => [rd s q, .box 130 [.box 0 0], boxP nm x oe, flt q.i (t c) (u c)]
 | .out => []
def out3 {s : ByteArray} : R3 s → Out
 | .ok l _ _ => .ret (encL l)
 | _ => .pan (.ifc 128 (.box 3 0))
def rows3 {s : ByteArray} (nm : ByteArray) (x : Data) : R3 s → List Row
 | .ok _ e q => [rd s q, .box 130 [.box 0 0], boxP nm x (some e)]
 | .bad oe q c => [rd s q, .box 130 [.box 0 0], boxP nm x oe, flt q.i (t c) (u c)]
 | .out => []
theorem ret_spec (s : ByteArray) (hs4 : s.size ≤ 4000) (n : Nat) (p : PS s) (nm : ByteArray) (x : Data) (hne : retF s n p ≠ .out) : Spec Tryz.prog (GV t u) 139 [.box 1 0, .box 2 0] [rd s p, .box 130 [.box 0 0], boxP nm x none] (out2 (retF s n p)) (rows2 t u nm x (retF s n p)) := by
 obtain ⟨r, hG⟩ : ∃ r, retF s n p = r := ⟨_, rfl⟩; rw [hG] at hne ⊢
 have hs : s.size < 4611686018427387904 := by omega
 refine spec_of_awp2 TT_ok (N := 9) Tryz.func139 rfl (by rfl) ((by cases r <;> simp [rows2] at hne ⊢)) rfl ?_
 refine rgs fun E K J O => ?_; show aCall _ _ _ _ _ _ _; have sp1 := takeP_spec t u s ⟨#[114, 101, 116, 117, 114, 110]⟩ p hs
 cases hr1 : takeF s ⟨#[114, 101, 116, 117, 114, 110]⟩ p with
 | out =>
  simp only [retF, hr1] at hG; exact absurd hG.symm hne
 | bad q1 c1 =>
  rw [hr1] at sp1; refine aP [0] rfl rfl rfl (sp1 nofun) rfl rfl rfl rfl ?_; refine J _ _ ?_; simp only [retF, hr1] at hG; subst hG; exact ⟨[0, 1, 2, 3], _, rfl, rfl, rfl, rfl, rfl⟩
 | ok a1 q1 =>
  rw [hr1] at sp1; refine aR [0] rfl rfl rfl (sp1 nofun) rfl rfl rfl rfl ?_; refine O _ (aN [0, 1] rfl rfl ?_); clear O J K E; refine rgs fun E K J O => ?_; show aCall _ _ _ _ _ _ _; have sp2 := termP_spec t u s hs4 n 1 q1
  cases hr2 : termF s n 1 q1 with
  | out =>
   simp only [retF, hr1, hr2] at hG; exact absurd hG.symm hne
  | bad q2 c2 =>
   rw [hr2] at sp2; refine aP [0] rfl rfl rfl (sp2 nofun) rfl rfl rfl rfl ?_; refine J _ _ ?_; simp only [retF, hr1, hr2] at hG; subst hG; exact ⟨[0, 1, 2, 3], _, rfl, rfl, rfl, rfl, rfl⟩
  | ok a2 q2 =>
   obtain ⟨o2, n2, m2, l2⟩ := a2; rw [hr2] at sp2; refine aR [0] rfl rfl rfl (sp2 nofun) rfl rfl rfl rfl ?_; refine O _ (aN [0] rfl rfl ?_); clear O J K E; refine rgn fun E K J O => ?_; show aCall _ _ _ _ _ _ _; have sp3 := takeP_spec t u s ⟨#[59]⟩ q2 hs
   cases hr3 : takeF s ⟨#[59]⟩ q2 with
   | out =>
    simp only [retF, hr1, hr2, hr3] at hG; exact absurd hG.symm hne
   | bad q3 c3 =>
    rw [hr3] at sp3; refine aP [0] rfl rfl rfl (sp3 nofun) rfl rfl rfl rfl ?_; refine J _ _ ?_; simp only [retF, hr1, hr2, hr3] at hG; subst hG; exact ⟨[0, 1, 2, 3], _, rfl, rfl, rfl, rfl, rfl⟩
   | ok a3 q3 =>
    rw [hr3] at sp3; refine aR [0] rfl rfl rfl (sp3 nofun) rfl rfl rfl rfl ?_; refine O _ ?_; clear O J K E; simp only [retF, hr1, hr2, hr3] at hG; subst hG; exact ⟨_, [0, 1, 2], _, [], rfl, rfl, rfl, rfl, rfl, PWs.refl _, rfl⟩
theorem blockQ_spec (s : ByteArray) (hs4 : s.size ≤ 4000) (n : Nat) (hn : n ≤ 1000000) (d : Int) (p : PS s) (nm : ByteArray) (x : Data) (hne : blockQ s n d p ≠ .out) : Spec Tryz.prog (GV t u) 138 [.box 0 0, .d (num d), .fn 139 [.box 1 0, .box 2 0]] [rd s p, .box 130 [.box 0 0], boxP nm x none] (out3 (blockQ s n d p)) (rows3 t u nm x (blockQ s n d p)) := by
 obtain ⟨r, hG⟩ : ∃ r, blockQ s n d p = r := ⟨_, rfl⟩; rw [hG] at hne ⊢
 have hs : s.size < 4611686018427387904 := by omega
 refine spec_of_awp2 TT_ok (N := 38) Tryz.func138 rfl (by rfl) ((by cases r <;> simp [rows3] at hne ⊢)) rfl ?_
 refine rgs fun E K J O => ?_; refine O _ (aN [0, 1, 2] rfl rfl ?_); clear O J K E; refine rgs fun E K J O => ?_; show aCall _ _ _ _ _ _ _; have sp1 := takeP_spec t u s ⟨#[123]⟩ p hs
 cases hr1 : takeF s ⟨#[123]⟩ p with
 | out =>
  simp only [blockQ, hr1] at hG; exact absurd hG.symm hne
 | bad q1 c1 =>
  rw [hr1] at sp1; refine aP [0] rfl rfl rfl (sp1 nofun) rfl rfl rfl rfl ?_; refine J _ _ ?_; simp only [blockQ, hr1] at hG; subst hG; exact ⟨[0, 1, 2, 3], _, rfl, rfl, rfl, rfl, rfl⟩
 | ok a1 q1 =>
  rw [hr1] at sp1; refine aR [0] rfl rfl rfl (sp1 nofun) rfl rfl rfl rfl ?_; refine O _ (aN [0, 1, 2] rfl rfl ?_); clear O J K E; refine rgs fun E K J O => ?_; refine O _ (aN [0, 1, 2, 7] rfl rfl ?_); clear O J K E; refine awp_acc 7 217 7 rfl rfl rfl ?_; refine awp_norm [0, 1, 2, 7] rfl rfl ?_; refine awp_seq ?_; refine awp_block ?_; simp only [blockQ, hr1] at hG; clear hr1 sp1; refine awp_loop (fun k Y => ∃ acc q, acc.length + k ≤ n ∧ (match stmtsL s k d acc q with | .bad q c => .bad none q c | .out => .out | .ok l q => match retF s n q with | .bad oe q c => .bad oe q c | .out => .out | .ok e q => match takeF s ⟨#[125]⟩ q with | .bad q c => .bad (some e) q c | .out => .out | .ok _ q => .ok l e q : R3 s) = r ∧ Y = ⟨[(0, .box 0 0), (1, .d (num d)), (2, .fn 139 [.box 1 0, .box 2 0]), (7, .acc 3)], [rd s q, .box 130 [.box 0 0], boxP nm x none, .acc 217 7 (sms acc)]⟩) (n) (⟨[], _, by simp, hG, rfl⟩) ?_; clear hG; rintro k Y ⟨acc, q, hk, hG, rfl⟩
  cases k with
  | zero => simp only [stmtsL] at hG; exact absurd hG.symm hne
  | succ m =>
   refine awp_seq ?_; refine rgs fun E K J O => ?_; refine onB_intro (fun h1 => ?_) (fun h1 => ?_)
   ·refine O _ (aN [0, 1, 2, 7, 21] rfl rfl ?_); clear O J K E
    refine awp_cond2 rfl (onB_intro (fun h2 => ?_) (fun h2 => ?_))
    ·refine awp_skip ?_; refine awp_block ?_; refine awp_seq ?_; refine rgs fun E K J O => ?_; refine O _ (aN [0, 1, 2, 7, 23] rfl rfl ?_); clear O J K E
     refine awp_cond2 rfl (onB_intro (fun h3 => ?_) (fun h3 => ?_))
     ·refine rgn fun E K J O => ?_; show aCall _ _ _ _ _ _ _
      refine aP [0] rfl rfl rfl (fail_spec (GV t u) 132 s _ _ (t 0) (u 0)) rfl rfl rfl rfl ?_; refine J _ _ ?_; simp only [stmtsL, eqW, bz, h1, h2, h3] at hG; subst hG; exact ⟨[0, 1, 2, 4], _, rfl, rfl, rfl, rfl, rfl⟩
     refine awp_skip ?_; refine rgn fun E K J O => ?_; show aCall _ _ _ _ _ _ _; have sp2 := stmtP_spec t u s hs4 m (by omega) d q
     cases hr2 : stmtF s m d q with
     | out =>
      simp only [stmtsL, eqW, bz, R.bind, h1, h2, h3, hr2] at hG; exact absurd hG.symm hne
     | bad q2 c2 =>
      rw [hr2] at sp2; refine aP [0] rfl rfl rfl (sp2 nofun) rfl rfl rfl rfl ?_; refine J _ _ ?_; simp only [stmtsL, eqW, bz, R.bind, h1, h2, h3, hr2] at hG; subst hG; exact ⟨[0, 1, 2, 4], _, rfl, rfl, rfl, rfl, rfl⟩
     | ok a2 q2 =>
      obtain ⟨x2, y2, z2, l2, c2, b2, e2⟩ := a2; rw [hr2] at sp2; refine aR [0] rfl rfl rfl (sp2 nofun) rfl rfl rfl rfl ?_; refine And.intro (And.intro (by simp only [chunk_length, sms_length]; omega) (by simp only [chunk_length, sms_length, maxLen_eq]; omega)) ?_; refine O _ ?_; clear O J K E; simp only [stmtsL, eqW, bz, R.bind, h1, h2, h3, hr2] at hG; exact ⟨m, Nat.lt_succ_self m, _, sub_norm (slots := [0, 1, 2, 7]) rfl rfl, _, _, by simp only [List.length_append, List.length_cons, List.length_nil]; omega, hG, by rw [← sms_snoc]; rfl⟩
    refine awp_exit ?_; refine rgs fun E K J O => ?_; show aCall _ _ _ _ _ _ _; have sp2 := ret_spec t u s hs4 n q nm x
    cases hr2 : retF s n q with
    | out =>
     simp only [stmtsL, eqW, bz, h1, h2, hr2] at hG; exact absurd hG.symm hne
    | bad oe q2 c2 =>
     rw [hr2] at sp2
     cases oe with
     | none =>
      refine aP [0, 1, 2] rfl rfl rfl (sp2 nofun) rfl rfl rfl rfl ?_; refine J _ _ ?_; simp only [stmtsL, eqW, bz, h1, h2, hr2] at hG; subst hG; exact ⟨[0, 1, 2, 4], _, rfl, rfl, rfl, rfl, rfl⟩
     | some ex =>
      obtain ⟨o9, n9, m9, l9⟩ := ex; refine aP [0, 1, 2] rfl rfl rfl (sp2 nofun) rfl rfl rfl rfl ?_; refine J _ _ ?_; simp only [stmtsL, eqW, bz, h1, h2, hr2] at hG; subst hG; exact ⟨[0, 1, 2, 4], _, rfl, rfl, rfl, rfl, rfl⟩
    | ok a2 q2 =>
     obtain ⟨o9, n9, m9, l9⟩ := a2; rw [hr2] at sp2; refine aR [0, 1, 2] rfl rfl rfl (sp2 nofun) rfl rfl rfl rfl ?_; refine O _ (aN [0, 7] rfl rfl ?_); clear O J K E; refine rgs fun E K J O => ?_; show aCall _ _ _ _ _ _ _; have sp3 := takeP_spec t u s ⟨#[125]⟩ q2 hs
     cases hr3 : takeF s ⟨#[125]⟩ q2 with
     | out =>
      simp only [stmtsL, eqW, bz, h1, h2, hr2, hr3] at hG; exact absurd hG.symm hne
     | bad q3 c3 =>
      rw [hr3] at sp3; refine aP [0] rfl rfl rfl (sp3 nofun) rfl rfl rfl rfl ?_; refine J _ _ ?_; simp only [stmtsL, eqW, bz, h1, h2, hr2, hr3] at hG; subst hG; exact ⟨[0, 1, 2, 4], _, rfl, rfl, rfl, rfl, rfl⟩
     | ok a3 q3 =>
      rw [hr3] at sp3; refine aR [0] rfl rfl rfl (sp3 nofun) rfl rfl rfl rfl ?_; refine O _ (aN [7] rfl rfl ?_); clear O J K E; refine rgs fun E K J O => ?_; refine O _ (aN [6] rfl rfl ?_); clear O J K E; refine awp_ret ?_; simp only [stmtsL, eqW, bz, h1, h2, hr2, hr3] at hG; subst hG; exact ⟨_, [0, 1, 2], _, [encL _], rfl, rfl, rfl, rfl, rfl, PWs.refl _, rfl⟩
   refine O _ (aN [0, 1, 2, 7, 21] rfl rfl ?_); clear O J K E; refine awp_cond rfl ?_; refine awp_exit ?_; refine rgs fun E K J O => ?_; show aCall _ _ _ _ _ _ _; have sp2 := ret_spec t u s hs4 n q nm x
   cases hr2 : retF s n q with
   | out =>
    simp only [stmtsL, eqW, bz, h1, hr2] at hG; exact absurd hG.symm hne
   | bad oe q2 c2 =>
    rw [hr2] at sp2
    cases oe with
    | none =>
     refine aP [0, 1, 2] rfl rfl rfl (sp2 nofun) rfl rfl rfl rfl ?_; refine J _ _ ?_; simp only [stmtsL, eqW, bz, h1, hr2] at hG; subst hG; exact ⟨[0, 1, 2, 4], _, rfl, rfl, rfl, rfl, rfl⟩
    | some ex =>
     obtain ⟨o9, n9, m9, l9⟩ := ex; refine aP [0, 1, 2] rfl rfl rfl (sp2 nofun) rfl rfl rfl rfl ?_; refine J _ _ ?_; simp only [stmtsL, eqW, bz, h1, hr2] at hG; subst hG; exact ⟨[0, 1, 2, 4], _, rfl, rfl, rfl, rfl, rfl⟩
   | ok a2 q2 =>
    obtain ⟨o9, n9, m9, l9⟩ := a2; rw [hr2] at sp2; refine aR [0, 1, 2] rfl rfl rfl (sp2 nofun) rfl rfl rfl rfl ?_; refine O _ (aN [0, 7] rfl rfl ?_); clear O J K E; refine rgs fun E K J O => ?_; show aCall _ _ _ _ _ _ _; have sp3 := takeP_spec t u s ⟨#[125]⟩ q2 hs
    cases hr3 : takeF s ⟨#[125]⟩ q2 with
    | out =>
     simp only [stmtsL, eqW, bz, h1, hr2, hr3] at hG; exact absurd hG.symm hne
    | bad q3 c3 =>
     rw [hr3] at sp3; refine aP [0] rfl rfl rfl (sp3 nofun) rfl rfl rfl rfl ?_; refine J _ _ ?_; simp only [stmtsL, eqW, bz, h1, hr2, hr3] at hG; subst hG; exact ⟨[0, 1, 2, 4], _, rfl, rfl, rfl, rfl, rfl⟩
    | ok a3 q3 =>
     rw [hr3] at sp3; refine aR [0] rfl rfl rfl (sp3 nofun) rfl rfl rfl rfl ?_; refine O _ (aN [7] rfl rfl ?_); clear O J K E; refine rgs fun E K J O => ?_; refine O _ (aN [6] rfl rfl ?_); clear O J K E; refine awp_ret ?_; simp only [stmtsL, eqW, bz, h1, hr2, hr3] at hG; subst hG; exact ⟨_, [0, 1, 2], _, [encL _], rfl, rfl, rfl, rfl, rfl, PWs.refl _, rfl⟩
end
end Go.Abs
end
