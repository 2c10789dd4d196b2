/- Texts of this proof, joined: AbsPC, AbsPD. -/
import Derived.Test.YtedljfabpknjiaaGreatDoorU5
section
namespace Go.Abs
open Go Go.Proofs
attribute [local irreducible] aCall AWp Sub Spec
mutual
def factorF (s : ByteArray) : Nat → Int → PS s → R s Ex
  | 0, _, _ => .out
  | n + 1, d, p => match eqW p.w ⟨#[45]⟩ with
    | true => (deepF s d p).bind fun d1 q => (factorF s n d1 (nx s q)).bind fun e q => .ok (.mk ⟨#[110, 101, 103]⟩ 0 ⟨#[]⟩ [e]) q
    | false => match eqW p.w ⟨#[40]⟩ with
      | true => (deepF s d p).bind fun d1 q => (termF s n d1 (nx s q)).bind fun e q => (takeF s ⟨#[41]⟩ q).bind fun _ q => .ok e q
      | false => match (!eqW p.w ⟨#[]⟩ && isD (byteAt p.w 0)) with
        | true => (numberF s p).bind fun k q => .ok (.mk ⟨#[110, 117, 109]⟩ k ⟨#[]⟩ []) q
        | false => (nameF s p).bind fun m q => match eqW q.w ⟨#[91]⟩ with
          | true => (deepF s d q).bind fun d1 q => (termF s n d1 (nx s q)).bind fun e q => (takeF s ⟨#[93]⟩ q).bind fun _ q => .ok (.mk ⟨#[97, 116]⟩ 0 m [e]) q
          | false => .ok (.mk ⟨#[118, 97, 114]⟩ 0 m []) q
def productF (s : ByteArray) : Nat → Int → PS s → R s Ex
  | 0, _, _ => .out
  | n + 1, d, p => (factorF s n d p).bind fun e q => prodL s n d e q
def prodL (s : ByteArray) : Nat → Int → Ex → PS s → R s Ex
  | 0, _, _, _ => .out
  | n + 1, d, e, p => match (eqW p.w ⟨#[42]⟩ || eqW p.w ⟨#[47]⟩ || eqW p.w ⟨#[37]⟩) with
    | true => (factorF s n d (nx s p)).bind fun f q => prodL s n d (.mk p.w 0 ⟨#[]⟩ [e, f]) q
    | false => .ok e p
def termF (s : ByteArray) : Nat → Int → PS s → R s Ex
  | 0, _, _ => .out
  | n + 1, d, p => (productF s n d p).bind fun e q => termL s n d e q
def termL (s : ByteArray) : Nat → Int → Ex → PS s → R s Ex
  | 0, _, _, _ => .out
  | n + 1, d, e, p => match (eqW p.w ⟨#[43]⟩ || eqW p.w ⟨#[45]⟩) with
    | true => (productF s n d (nx s p)).bind fun f q => termL s n d (.mk p.w 0 ⟨#[]⟩ [e, f]) q
    | false => .ok e p
end
def zE : List PV := [.d (str ⟨#[]⟩), .d (num 0), .d (str ⟨#[]⟩), .d (.s (.slice none 0 0))]
def cE (op : ByteArray) (n : Int) (m : ByteArray) (l : List Ex) : List PV := [.d (str op), .d (num n), .d (str m), .d (.sl 4 (exs l))]
section
variable (t : Nat → TypeId) (u : Nat → Value)
def FacOk (s : ByteArray) (n : Nat) : Prop := ∀ (d : Int) (p : PS s), PSpec t u 246 [.box 0 0, .d (num d)] s p encE (factorF s n d p)
def ProdOk (s : ByteArray) (n : Nat) : Prop := ∀ (d : Int) (p : PS s), PSpec t u 198 [.box 0 0, .d (num d)] s p encE (productF s n d p)
def TermOk (s : ByteArray) (n : Nat) : Prop := ∀ (d : Int) (p : PS s), PSpec t u 140 [.box 0 0, .d (num d)] s p encE (termF s n d p)
def p198_5 : Plan := (.take 0 (.load 1 (.take 2 (.take 3 (.one 4 (.one 5 (.one 6 (.one 7 .done))))))))
theorem prod_step (s : ByteArray) (hs : s.size < 4611686018427387904) (n : Nat) (ih : ∀ m, m ≤ n → FacOk t u s m) : ProdOk t u s (n + 1) := by
  intro d p hne
  obtain ⟨r, hG⟩ : ∃ r, productF s (n + 1) d p = r := ⟨_, rfl⟩
  rw [hG] at hne ⊢
  refine spec_of_awp2 TT_ok (N := 43) Tryz.func198 rfl (by rfl) ((by cases r <;> simp [rowsR] at hne ⊢)) rfl ?_
  refine awp_seq ?_; refine rgn fun pan K hp hK => ?_; refine hK _ ?_; clear hK hp K pan; refine awp_norm [0, 1, 4] rfl rfl ?_; refine awp_seq ?_; refine rgn fun pan K hp hK => ?_; show aCall _ _ _ _ _ _ _
  have sp1 := ih n (by omega) d p
  cases hr1 : factorF s n d p with
  | out =>
    simp only [productF, R.bind, hr1] at hG
    exact absurd hG.symm hne
  | bad q1 c1 =>
    rw [hr1] at sp1
    refine aCall_pan (L := [0]) rfl rfl rfl (sp1 (fun e => nomatch e)) rfl rfl rfl rfl ?_
    refine hp _ _ ?_
    simp only [productF, R.bind, hr1] at hG
    subst hG
    exact ⟨[0, 2], _, rfl, rfl, rfl, rfl, rfl⟩
  | ok a1 q1 =>
    obtain ⟨o1, n1, m1, l1⟩ := a1
    rw [hr1] at sp1
    refine aCall_ret (L := [0]) rfl rfl rfl (sp1 (fun e => nomatch e)) rfl rfl rfl rfl ?_
    refine hK _ ?_; clear hK hp K pan; refine awp_norm [0, 1, 4, 5] rfl rfl ?_; refine awp_seq ?_; refine awp_block ?_
    simp only [productF, R.bind, hr1] at hG
    clear hr1 sp1
    refine awp_loop (fun k Y => ∃ o1 n1 m1 l1 q, k ≤ n ∧ prodL s k d (.mk o1 n1 m1 l1) q = r ∧ Y = ⟨[(0, .box 0 0), (1, .d (num d)), (4, .box 1 0), (5, .box 2 0)], [rd s q, .box 157 zE, .box 157 (cE o1 n1 m1 l1)]⟩) (n) (⟨_, _, _, _, _, Nat.le_refl _, hG, rfl⟩) ?_
    clear hG q1 o1 n1 m1 l1
    rintro k Y ⟨o1, n1, m1, l1, q, hk, hG, rfl⟩
    cases k with
    | zero => simp only [prodL] at hG; exact absurd hG.symm hne
    | succ m =>
      refine awp_seq ?_; refine awp_seq ?_; refine rgn fun pan K hp hK => ?_
      refine onB_intro (fun h1 => ?_) (fun h1 => ?_)
      · refine hK _ ?_; clear hK hp K pan; refine awp_norm [0, 1, 4, 5, 28] rfl rfl ?_; refine awp_cond rfl ?_; refine awp_skip ?_; refine awp_block ?_; refine awp_seq ?_; refine rgn fun pan K hp hK => ?_; refine hK _ ?_; clear hK hp K pan; refine awp_norm [0, 1, 4, 5, 6] rfl rfl ?_; refine awp_seq ?_; refine rgn fun pan K hp hK => ?_; show aCall _ _ _ _ _ _ _
        refine aCall_ret (L := [0]) rfl rfl rfl (nextP_spec _ s q hs) rfl rfl rfl rfl ?_
        refine hK _ ?_; clear hK hp K pan; refine awp_norm [0, 1, 4, 5, 6] rfl rfl ?_
        refine (awp_draw TT_ok mixed p198_5 [7] (fun i => Nat.beq i 2) (by kernel_rfl) fun pan K hp hK => ?_)
        show aCall _ _ _ _ _ _ _
        have sp2 := ih m (by omega) d (nx s q)
        cases hr2 : factorF s m d (nx s q) with
        | out =>
          simp only [prodL, eqW, Bool.true_or, R.bind, h1, hr2] at hG
          exact absurd hG.symm hne
        | bad q2 c2 =>
          rw [hr2] at sp2
          refine aCall_pan (L := [0]) rfl rfl rfl (sp2 (fun e => nomatch e)) rfl rfl rfl rfl ?_
          refine hp _ _ ?_
          simp only [prodL, eqW, Bool.true_or, R.bind, h1, hr2] at hG
          subst hG
          exact ⟨[0, 3], _, rfl, rfl, rfl, rfl, rfl⟩
        | ok a2 q2 =>
          obtain ⟨o2, n2, m2, l2⟩ := a2
          rw [hr2] at sp2
          refine aCall_ret (L := [0]) rfl rfl rfl (sp2 (fun e => nomatch e)) rfl rfl rfl rfl ?_
          refine hK _ ?_; clear hK hp K pan
          simp only [prodL, eqW, Bool.true_or, R.bind, h1, hr2] at hG
          exact ⟨m, Nat.lt_succ_self m, _, sub_norm (slots := [0, 1, 4, 5]) rfl rfl, _, _, _, _, _, by omega, hG, rfl⟩
      refine onB_intro (fun h2 => ?_) (fun h2 => ?_)
      · refine hK _ ?_; clear hK hp K pan; refine awp_norm [0, 1, 4, 5, 28] rfl rfl ?_; refine awp_cond rfl ?_; refine awp_skip ?_; refine awp_block ?_; refine awp_seq ?_; refine rgn fun pan K hp hK => ?_; refine hK _ ?_; clear hK hp K pan; refine awp_norm [0, 1, 4, 5, 6] rfl rfl ?_; refine awp_seq ?_; refine rgn fun pan K hp hK => ?_; show aCall _ _ _ _ _ _ _
        refine aCall_ret (L := [0]) rfl rfl rfl (nextP_spec _ s q hs) rfl rfl rfl rfl ?_
        refine hK _ ?_; clear hK hp K pan; refine awp_norm [0, 1, 4, 5, 6] rfl rfl ?_
        refine (awp_draw TT_ok mixed p198_5 [7] (fun i => Nat.beq i 2) (by kernel_rfl) fun pan K hp hK => ?_)
        show aCall _ _ _ _ _ _ _
        have sp2 := ih m (by omega) d (nx s q)
        cases hr2 : factorF s m d (nx s q) with
        | out =>
          simp only [prodL, eqW, Bool.true_or, Bool.or_true, R.bind, h1, h2, hr2] at hG
          exact absurd hG.symm hne
        | bad q2 c2 =>
          rw [hr2] at sp2
          refine aCall_pan (L := [0]) rfl rfl rfl (sp2 (fun e => nomatch e)) rfl rfl rfl rfl ?_
          refine hp _ _ ?_
          simp only [prodL, eqW, Bool.true_or, Bool.or_true, R.bind, h1, h2, hr2] at hG
          subst hG
          exact ⟨[0, 3], _, rfl, rfl, rfl, rfl, rfl⟩
        | ok a2 q2 =>
          obtain ⟨o2, n2, m2, l2⟩ := a2
          rw [hr2] at sp2
          refine aCall_ret (L := [0]) rfl rfl rfl (sp2 (fun e => nomatch e)) rfl rfl rfl rfl ?_
          refine hK _ ?_; clear hK hp K pan
          simp only [prodL, eqW, Bool.true_or, Bool.or_true, R.bind, h1, h2, hr2] at hG
          exact ⟨m, Nat.lt_succ_self m, _, sub_norm (slots := [0, 1, 4, 5]) rfl rfl, _, _, _, _, _, by omega, hG, rfl⟩
      refine hK _ ?_; clear hK hp K pan; refine awp_norm [0, 1, 4, 5, 28] rfl rfl ?_
      refine awp_cond2 rfl (onB_intro (fun h3 => ?_) (fun h3 => ?_))
      · refine awp_skip ?_; refine awp_block ?_; refine awp_seq ?_; refine rgn fun pan K hp hK => ?_; refine hK _ ?_; clear hK hp K pan; refine awp_norm [0, 1, 4, 5, 6] rfl rfl ?_; refine awp_seq ?_; refine rgn fun pan K hp hK => ?_; show aCall _ _ _ _ _ _ _
        refine aCall_ret (L := [0]) rfl rfl rfl (nextP_spec _ s q hs) rfl rfl rfl rfl ?_
        refine hK _ ?_; clear hK hp K pan; refine awp_norm [0, 1, 4, 5, 6] rfl rfl ?_
        refine (awp_draw TT_ok mixed p198_5 [7] (fun i => Nat.beq i 2) (by kernel_rfl) fun pan K hp hK => ?_)
        show aCall _ _ _ _ _ _ _
        have sp2 := ih m (by omega) d (nx s q)
        cases hr2 : factorF s m d (nx s q) with
        | out =>
          simp only [prodL, eqW, Bool.or_true, Bool.or_self, R.bind, h1, h2, h3, hr2] at hG
          exact absurd hG.symm hne
        | bad q2 c2 =>
          rw [hr2] at sp2
          refine aCall_pan (L := [0]) rfl rfl rfl (sp2 (fun e => nomatch e)) rfl rfl rfl rfl ?_
          refine hp _ _ ?_
          simp only [prodL, eqW, Bool.or_true, Bool.or_self, R.bind, h1, h2, h3, hr2] at hG
          subst hG
          exact ⟨[0, 3], _, rfl, rfl, rfl, rfl, rfl⟩
        | ok a2 q2 =>
          obtain ⟨o2, n2, m2, l2⟩ := a2
          rw [hr2] at sp2
          refine aCall_ret (L := [0]) rfl rfl rfl (sp2 (fun e => nomatch e)) rfl rfl rfl rfl ?_
          refine hK _ ?_; clear hK hp K pan
          simp only [prodL, eqW, Bool.or_true, Bool.or_self, R.bind, h1, h2, h3, hr2] at hG
          exact ⟨m, Nat.lt_succ_self m, _, sub_norm (slots := [0, 1, 4, 5]) rfl rfl, _, _, _, _, _, by omega, hG, rfl⟩
      refine awp_exit ?_
      refine awp_seq ?_; refine rgn fun pan K hp hK => ?_; refine hK _ ?_; clear hK hp K pan; refine awp_norm [4] rfl rfl ?_; refine awp_ret ?_
      simp only [prodL, eqW, Bool.or_self, h1, h2, h3] at hG
      subst hG
      exact ⟨_, [0], _, [encE _], rfl, rfl, rfl, rfl, rfl, (by first | exact PWs.refl _ | (refine PWs.cons (PW.d ?_) PWs.nil; repeat (first | exact DW.refl _ | refine DW.agg ?_ | refine DWs.cons ?_ ?_ | exact DWs.nil | exact DW.nil _))), rfl⟩
def p140_5 : Plan := (.take 0 (.load 1 (.take 2 (.take 3 (.one 4 (.one 5 (.one 6 (.one 7 .done))))))))
theorem term_step (s : ByteArray) (hs : s.size < 4611686018427387904) (n : Nat) (ih : ∀ m, m ≤ n → ProdOk t u s m) : TermOk t u s (n + 1) := by
  intro d p hne
  obtain ⟨r, hG⟩ : ∃ r, termF s (n + 1) d p = r := ⟨_, rfl⟩
  rw [hG] at hne ⊢
  refine spec_of_awp2 TT_ok (N := 36) Tryz.func140 rfl (by rfl) ((by cases r <;> simp [rowsR] at hne ⊢)) rfl ?_
  refine awp_seq ?_; refine rgn fun pan K hp hK => ?_; refine hK _ ?_; clear hK hp K pan; refine awp_norm [0, 1, 4] rfl rfl ?_; refine awp_seq ?_; refine rgn fun pan K hp hK => ?_; show aCall _ _ _ _ _ _ _
  have sp1 := ih n (by omega) d p
  cases hr1 : productF s n d p with
  | out =>
    simp only [termF, R.bind, hr1] at hG
    exact absurd hG.symm hne
  | bad q1 c1 =>
    rw [hr1] at sp1
    refine aCall_pan (L := [0]) rfl rfl rfl (sp1 (fun e => nomatch e)) rfl rfl rfl rfl ?_
    refine hp _ _ ?_
    simp only [termF, R.bind, hr1] at hG
    subst hG
    exact ⟨[0, 2], _, rfl, rfl, rfl, rfl, rfl⟩
  | ok a1 q1 =>
    obtain ⟨o1, n1, m1, l1⟩ := a1
    rw [hr1] at sp1
    refine aCall_ret (L := [0]) rfl rfl rfl (sp1 (fun e => nomatch e)) rfl rfl rfl rfl ?_
    refine hK _ ?_; clear hK hp K pan; refine awp_norm [0, 1, 4, 5] rfl rfl ?_; refine awp_seq ?_; refine awp_block ?_
    simp only [termF, R.bind, hr1] at hG
    clear hr1 sp1
    refine awp_loop (fun k Y => ∃ o1 n1 m1 l1 q, k ≤ n ∧ termL s k d (.mk o1 n1 m1 l1) q = r ∧ Y = ⟨[(0, .box 0 0), (1, .d (num d)), (4, .box 1 0), (5, .box 2 0)], [rd s q, .box 157 zE, .box 157 (cE o1 n1 m1 l1)]⟩) (n) (⟨_, _, _, _, _, Nat.le_refl _, hG, rfl⟩) ?_
    clear hG q1 o1 n1 m1 l1
    rintro k Y ⟨o1, n1, m1, l1, q, hk, hG, rfl⟩
    cases k with
    | zero => simp only [termL] at hG; exact absurd hG.symm hne
    | succ m =>
      refine awp_seq ?_; refine awp_seq ?_; refine rgn fun pan K hp hK => ?_
      refine onB_intro (fun h1 => ?_) (fun h1 => ?_)
      · refine hK _ ?_; clear hK hp K pan; refine awp_norm [0, 1, 4, 5, 21] rfl rfl ?_; refine awp_cond rfl ?_; refine awp_skip ?_; refine awp_block ?_; refine awp_seq ?_; refine rgn fun pan K hp hK => ?_; refine hK _ ?_; clear hK hp K pan; refine awp_norm [0, 1, 4, 5, 6] rfl rfl ?_; refine awp_seq ?_; refine rgn fun pan K hp hK => ?_; show aCall _ _ _ _ _ _ _
        refine aCall_ret (L := [0]) rfl rfl rfl (nextP_spec _ s q hs) rfl rfl rfl rfl ?_
        refine hK _ ?_; clear hK hp K pan; refine awp_norm [0, 1, 4, 5, 6] rfl rfl ?_
        refine (awp_draw TT_ok mixed p140_5 [7] (fun i => Nat.beq i 2) (by kernel_rfl) fun pan K hp hK => ?_)
        show aCall _ _ _ _ _ _ _
        have sp2 := ih m (by omega) d (nx s q)
        cases hr2 : productF s m d (nx s q) with
        | out =>
          simp only [termL, eqW, Bool.true_or, R.bind, h1, hr2] at hG
          exact absurd hG.symm hne
        | bad q2 c2 =>
          rw [hr2] at sp2
          refine aCall_pan (L := [0]) rfl rfl rfl (sp2 (fun e => nomatch e)) rfl rfl rfl rfl ?_
          refine hp _ _ ?_
          simp only [termL, eqW, Bool.true_or, R.bind, h1, hr2] at hG
          subst hG
          exact ⟨[0, 3], _, rfl, rfl, rfl, rfl, rfl⟩
        | ok a2 q2 =>
          obtain ⟨o2, n2, m2, l2⟩ := a2
          rw [hr2] at sp2
          refine aCall_ret (L := [0]) rfl rfl rfl (sp2 (fun e => nomatch e)) rfl rfl rfl rfl ?_
          refine hK _ ?_; clear hK hp K pan
          simp only [termL, eqW, Bool.true_or, R.bind, h1, hr2] at hG
          exact ⟨m, Nat.lt_succ_self m, _, sub_norm (slots := [0, 1, 4, 5]) rfl rfl, _, _, _, _, _, by omega, hG, rfl⟩
      refine hK _ ?_; clear hK hp K pan; refine awp_norm [0, 1, 4, 5, 21] rfl rfl ?_
      refine awp_cond2 rfl (onB_intro (fun h2 => ?_) (fun h2 => ?_))
      · refine awp_skip ?_; refine awp_block ?_; refine awp_seq ?_; refine rgn fun pan K hp hK => ?_; refine hK _ ?_; clear hK hp K pan; refine awp_norm [0, 1, 4, 5, 6] rfl rfl ?_; refine awp_seq ?_; refine rgn fun pan K hp hK => ?_; show aCall _ _ _ _ _ _ _
        refine aCall_ret (L := [0]) rfl rfl rfl (nextP_spec _ s q hs) rfl rfl rfl rfl ?_
        refine hK _ ?_; clear hK hp K pan; refine awp_norm [0, 1, 4, 5, 6] rfl rfl ?_
        refine (awp_draw TT_ok mixed p140_5 [7] (fun i => Nat.beq i 2) (by kernel_rfl) fun pan K hp hK => ?_)
        show aCall _ _ _ _ _ _ _
        have sp2 := ih m (by omega) d (nx s q)
        cases hr2 : productF s m d (nx s q) with
        | out =>
          simp only [termL, eqW, Bool.or_true, R.bind, h1, h2, hr2] at hG
          exact absurd hG.symm hne
        | bad q2 c2 =>
          rw [hr2] at sp2
          refine aCall_pan (L := [0]) rfl rfl rfl (sp2 (fun e => nomatch e)) rfl rfl rfl rfl ?_
          refine hp _ _ ?_
          simp only [termL, eqW, Bool.or_true, R.bind, h1, h2, hr2] at hG
          subst hG
          exact ⟨[0, 3], _, rfl, rfl, rfl, rfl, rfl⟩
        | ok a2 q2 =>
          obtain ⟨o2, n2, m2, l2⟩ := a2
          rw [hr2] at sp2
          refine aCall_ret (L := [0]) rfl rfl rfl (sp2 (fun e => nomatch e)) rfl rfl rfl rfl ?_
          refine hK _ ?_; clear hK hp K pan
          simp only [termL, eqW, Bool.or_true, R.bind, h1, h2, hr2] at hG
          exact ⟨m, Nat.lt_succ_self m, _, sub_norm (slots := [0, 1, 4, 5]) rfl rfl, _, _, _, _, _, by omega, hG, rfl⟩
      refine awp_exit ?_
      refine awp_seq ?_; refine rgn fun pan K hp hK => ?_; refine hK _ ?_; clear hK hp K pan; refine awp_norm [4] rfl rfl ?_; refine awp_ret ?_
      simp only [termL, eqW, Bool.or_self, h1, h2] at hG
      subst hG
      exact ⟨_, [0], _, [encE _], rfl, rfl, rfl, rfl, rfl, (by first | exact PWs.refl _ | (refine PWs.cons (PW.d ?_) PWs.nil; repeat (first | exact DW.refl _ | refine DW.agg ?_ | refine DWs.cons ?_ ?_ | exact DWs.nil | exact DW.nil _))), rfl⟩
def p246_17 : Plan := (.take 0 (.load 1 (.take 2 (.take 3 (.one 4 (.one 5 (.one 6 (.one 7 .done))))))))
theorem fac_step (s : ByteArray) (hs4 : s.size ≤ 4000) (n : Nat) (ihF : ∀ m, m ≤ n → FacOk t u s m) (ihT : ∀ m, m ≤ n → TermOk t u s m) : FacOk t u s (n + 1) := by
  intro d p hne
  obtain ⟨r, hG⟩ : ∃ r, factorF s (n + 1) d p = r := ⟨_, rfl⟩
  rw [hG] at hne ⊢
  have hs : s.size < 4611686018427387904 := by omega
  refine spec_of_awp2 TT_ok (N := 83) Tryz.func246 rfl (by rfl) ((by cases r <;> simp [rowsR] at hne ⊢)) rfl ?_
  refine awp_seq ?_; refine rgn fun pan K hp hK => ?_; refine hK _ ?_; clear hK hp K pan; refine awp_norm [0, 1, 4] rfl rfl ?_; refine awp_seq ?_; refine awp_block ?_; refine awp_seq ?_; refine rgn fun pan K hp hK => ?_; refine hK _ ?_; clear hK hp K pan; refine awp_norm [0, 1, 4, 10] rfl rfl ?_
  refine awp_cond2 rfl (onB_intro (fun h1 => ?_) (fun h1 => ?_))
  · refine awp_seq ?_; refine rgn fun pan K hp hK => ?_; show aCall _ _ _ _ _ _ _
    have sp1 := deepP_spec t u s p d
    cases hr1 : deepF s d p with
    | out =>
      simp only [factorF, eqW, R.bind, h1, hr1] at hG
      exact absurd hG.symm hne
    | bad q1 c1 =>
      rw [hr1] at sp1
      refine aCall_pan (L := [0]) rfl rfl rfl (sp1 (fun e => nomatch e)) rfl rfl rfl rfl ?_
      refine hp _ _ ?_
      simp only [factorF, eqW, R.bind, h1, hr1] at hG
      subst hG
      exact ⟨[0, 2], _, rfl, rfl, rfl, rfl, rfl⟩
    | ok a1 q1 =>
      rw [hr1] at sp1
      refine aCall_ret (L := [0]) rfl rfl rfl (sp1 (fun e => nomatch e)) rfl rfl rfl rfl ?_
      refine hK _ ?_; clear hK hp K pan; refine awp_norm [0, 4, 5] rfl rfl ?_; refine awp_seq ?_; refine rgn fun pan K hp hK => ?_; show aCall _ _ _ _ _ _ _
      refine aCall_ret (L := [0]) rfl rfl rfl (nextP_spec _ s q1 hs) rfl rfl rfl rfl ?_
      refine hK _ ?_; clear hK hp K pan; refine awp_norm [0, 4, 5] rfl rfl ?_; refine awp_seq ?_; refine rgn fun pan K hp hK => ?_; show aCall _ _ _ _ _ _ _
      have sp2 := ihF n (by omega) a1 (nx s q1)
      cases hr2 : factorF s n a1 (nx s q1) with
      | out =>
        simp only [factorF, eqW, R.bind, h1, hr1, hr2] at hG
        exact absurd hG.symm hne
      | bad q2 c2 =>
        rw [hr2] at sp2
        refine aCall_pan (L := [0]) rfl rfl rfl (sp2 (fun e => nomatch e)) rfl rfl rfl rfl ?_
        refine hp _ _ ?_
        simp only [factorF, eqW, R.bind, h1, hr1, hr2] at hG
        subst hG
        exact ⟨[0, 2], _, rfl, rfl, rfl, rfl, rfl⟩
      | ok a2 q2 =>
        obtain ⟨o2, n2, m2, l2⟩ := a2
        rw [hr2] at sp2
        refine aCall_ret (L := [0]) rfl rfl rfl (sp2 (fun e => nomatch e)) rfl rfl rfl rfl ?_
        refine hK _ ?_; clear hK hp K pan; refine awp_norm [4] rfl rfl ?_; refine awp_ret ?_
        simp only [factorF, eqW, R.bind, h1, hr1, hr2] at hG
        subst hG
        exact ⟨_, [0], _, [encE _], rfl, rfl, rfl, rfl, rfl, (by first | exact PWs.refl _ | (refine PWs.cons (PW.d ?_) PWs.nil; repeat (first | exact DW.refl _ | refine DW.agg ?_ | refine DWs.cons ?_ ?_ | exact DWs.nil | exact DW.nil _))), rfl⟩
  refine awp_seq ?_; refine rgn fun pan K hp hK => ?_; refine hK _ ?_; clear hK hp K pan; refine awp_norm [0, 1, 4, 26] rfl rfl ?_
  refine awp_cond2 rfl (onB_intro (fun h2 => ?_) (fun h2 => ?_))
  · refine awp_seq ?_; refine rgn fun pan K hp hK => ?_; show aCall _ _ _ _ _ _ _
    have sp1 := deepP_spec t u s p d
    cases hr1 : deepF s d p with
    | out =>
      simp only [factorF, eqW, R.bind, h1, h2, hr1] at hG
      exact absurd hG.symm hne
    | bad q1 c1 =>
      rw [hr1] at sp1
      refine aCall_pan (L := [0]) rfl rfl rfl (sp1 (fun e => nomatch e)) rfl rfl rfl rfl ?_
      refine hp _ _ ?_
      simp only [factorF, eqW, R.bind, h1, h2, hr1] at hG
      subst hG
      exact ⟨[0, 2], _, rfl, rfl, rfl, rfl, rfl⟩
    | ok a1 q1 =>
      rw [hr1] at sp1
      refine aCall_ret (L := [0]) rfl rfl rfl (sp1 (fun e => nomatch e)) rfl rfl rfl rfl ?_
      refine hK _ ?_; clear hK hp K pan; refine awp_norm [0, 4, 6] rfl rfl ?_; refine awp_seq ?_; refine rgn fun pan K hp hK => ?_; show aCall _ _ _ _ _ _ _
      refine aCall_ret (L := [0]) rfl rfl rfl (nextP_spec _ s q1 hs) rfl rfl rfl rfl ?_
      refine hK _ ?_; clear hK hp K pan; refine awp_norm [0, 4, 6] rfl rfl ?_; refine awp_seq ?_; refine rgn fun pan K hp hK => ?_; show aCall _ _ _ _ _ _ _
      have sp2 := ihT n (by omega) a1 (nx s q1)
      cases hr2 : termF s n a1 (nx s q1) with
      | out =>
        simp only [factorF, eqW, R.bind, h1, h2, hr1, hr2] at hG
        exact absurd hG.symm hne
      | bad q2 c2 =>
        rw [hr2] at sp2
        refine aCall_pan (L := [0]) rfl rfl rfl (sp2 (fun e => nomatch e)) rfl rfl rfl rfl ?_
        refine hp _ _ ?_
        simp only [factorF, eqW, R.bind, h1, h2, hr1, hr2] at hG
        subst hG
        exact ⟨[0, 2], _, rfl, rfl, rfl, rfl, rfl⟩
      | ok a2 q2 =>
        obtain ⟨o2, n2, m2, l2⟩ := a2
        rw [hr2] at sp2
        refine aCall_ret (L := [0]) rfl rfl rfl (sp2 (fun e => nomatch e)) rfl rfl rfl rfl ?_
        refine hK _ ?_; clear hK hp K pan; refine awp_norm [0, 4, 7] rfl rfl ?_; refine awp_seq ?_; refine rgn fun pan K hp hK => ?_; show aCall _ _ _ _ _ _ _
        have sp3 := takeP_spec t u s ⟨#[41]⟩ q2 hs
        cases hr3 : takeF s ⟨#[41]⟩ q2 with
        | out =>
          simp only [factorF, eqW, R.bind, h1, h2, hr1, hr2, hr3] at hG
          exact absurd hG.symm hne
        | bad q3 c3 =>
          rw [hr3] at sp3
          refine aCall_pan (L := [0]) rfl rfl rfl (sp3 (fun e => nomatch e)) rfl rfl rfl rfl ?_
          refine hp _ _ ?_
          simp only [factorF, eqW, R.bind, h1, h2, hr1, hr2, hr3] at hG
          subst hG
          exact ⟨[0, 3], _, rfl, rfl, rfl, rfl, rfl⟩
        | ok a3 q3 =>
          rw [hr3] at sp3
          refine aCall_ret (L := [0]) rfl rfl rfl (sp3 (fun e => nomatch e)) rfl rfl rfl rfl ?_
          refine hK _ ?_; clear hK hp K pan; refine awp_norm [4, 7] rfl rfl ?_; refine awp_seq ?_; refine rgn fun pan K hp hK => ?_; refine hK _ ?_; clear hK hp K pan; refine awp_norm [4] rfl rfl ?_; refine awp_ret ?_
          simp only [factorF, eqW, R.bind, h1, h2, hr1, hr2, hr3] at hG
          subst hG
          exact ⟨_, [0], _, [encE _], rfl, rfl, rfl, rfl, rfl, (by first | exact PWs.refl _ | (refine PWs.cons (PW.d ?_) PWs.nil; repeat (first | exact DW.refl _ | refine DW.agg ?_ | refine DWs.cons ?_ ?_ | exact DWs.nil | exact DW.nil _))), rfl⟩
  refine awp_seq ?_; refine rgn fun pan K hp hK => ?_
  refine onB_intro (fun h3 => ?_) (fun h3 => ?_)
  · have hpos := size_pos (by simpa using h3)
    refine And.intro (by omega) (And.intro (by omega) ?_)
    show aCall _ _ _ _ _ _ _
    refine aCall_ret (L := []) rfl rfl rfl (digit_spec _ _) rfl rfl rfl rfl ?_
    refine hK _ ?_; clear hK hp K pan; refine awp_norm [0, 1, 4, 43] rfl rfl ?_
    refine awp_cond2 rfl (onB_intro (fun h4 => ?_) (fun h4 => ?_))
    · refine awp_seq ?_; refine rgn fun pan K hp hK => ?_; show aCall _ _ _ _ _ _ _
      have sp1 := numberP_spec t u s p hs4
      cases hr1 : numberF s p with
      | out =>
        simp only [factorF, eqW, isD, Bool.and_self, R.bind, h1, h2, h3, h4, hr1] at hG
        exact absurd hG.symm hne
      | bad q1 c1 =>
        rw [hr1] at sp1
        refine aCall_pan (L := [0]) rfl rfl rfl (sp1 (fun e => nomatch e)) rfl rfl rfl rfl ?_
        refine hp _ _ ?_
        simp only [factorF, eqW, isD, Bool.and_self, R.bind, h1, h2, h3, h4, hr1] at hG
        subst hG
        exact ⟨[0, 2], _, rfl, rfl, rfl, rfl, rfl⟩
      | ok a1 q1 =>
        rw [hr1] at sp1
        refine aCall_ret (L := [0]) rfl rfl rfl (sp1 (fun e => nomatch e)) rfl rfl rfl rfl ?_
        refine hK _ ?_; clear hK hp K pan; refine awp_norm [4] rfl rfl ?_; refine awp_ret ?_
        simp only [factorF, eqW, isD, Bool.and_self, R.bind, h1, h2, h3, h4, hr1] at hG
        subst hG
        exact ⟨_, [0], _, [encE _], rfl, rfl, rfl, rfl, rfl, (by first | exact PWs.refl _ | (refine PWs.cons (PW.d ?_) PWs.nil; repeat (first | exact DW.refl _ | refine DW.agg ?_ | refine DWs.cons ?_ ?_ | exact DWs.nil | exact DW.nil _))), rfl⟩
    refine awp_skip ?_; refine awp_seq ?_; refine rgn fun pan K hp hK => ?_; show aCall _ _ _ _ _ _ _
    have sp1 := nameP_spec t u s p hs
    cases hr1 : nameF s p with
    | out =>
      simp only [factorF, eqW, isD, Bool.and_false, R.bind, h1, h2, h3, h4, hr1] at hG
      exact absurd hG.symm hne
    | bad q1 c1 =>
      rw [hr1] at sp1
      refine aCall_pan (L := [0]) rfl rfl rfl (sp1 (fun e => nomatch e)) rfl rfl rfl rfl ?_
      refine hp _ _ ?_
      simp only [factorF, eqW, isD, Bool.and_false, R.bind, h1, h2, h3, h4, hr1] at hG
      subst hG
      exact ⟨[0, 2], _, rfl, rfl, rfl, rfl, rfl⟩
    | ok a1 q1 =>
      rw [hr1] at sp1
      refine aCall_ret (L := [0]) rfl rfl rfl (sp1 (fun e => nomatch e)) rfl rfl rfl rfl ?_
      refine hK _ ?_; clear hK hp K pan; refine awp_norm [0, 1, 4, 8] rfl rfl ?_; refine awp_seq ?_; refine awp_seq ?_; refine rgn fun pan K hp hK => ?_; refine hK _ ?_; clear hK hp K pan; refine awp_norm [0, 1, 4, 8, 67] rfl rfl ?_
      refine awp_cond2 rfl (onB_intro (fun h5 => ?_) (fun h5 => ?_))
      · refine awp_seq ?_; refine rgn fun pan K hp hK => ?_; show aCall _ _ _ _ _ _ _
        have sp2 := deepP_spec t u s q1 d
        cases hr2 : deepF s d q1 with
        | out =>
          simp only [factorF, eqW, isD, Bool.and_false, R.bind, h1, h2, h3, h4, hr1, h5, hr2] at hG
          exact absurd hG.symm hne
        | bad q2 c2 =>
          rw [hr2] at sp2
          refine aCall_pan (L := [0]) rfl rfl rfl (sp2 (fun e => nomatch e)) rfl rfl rfl rfl ?_
          refine hp _ _ ?_
          simp only [factorF, eqW, isD, Bool.and_false, R.bind, h1, h2, h3, h4, hr1, h5, hr2] at hG
          subst hG
          exact ⟨[0, 3], _, rfl, rfl, rfl, rfl, rfl⟩
        | ok a2 q2 =>
          rw [hr2] at sp2
          refine aCall_ret (L := [0]) rfl rfl rfl (sp2 (fun e => nomatch e)) rfl rfl rfl rfl ?_
          refine hK _ ?_; clear hK hp K pan; refine awp_norm [0, 4, 8, 9] rfl rfl ?_; refine awp_seq ?_; refine rgn fun pan K hp hK => ?_; show aCall _ _ _ _ _ _ _
          refine aCall_ret (L := [0]) rfl rfl rfl (nextP_spec _ s q2 hs) rfl rfl rfl rfl ?_
          refine hK _ ?_; clear hK hp K pan; refine awp_norm [0, 4, 8, 9] rfl rfl ?_; refine awp_seq ?_
          refine (awp_draw TT_ok mixed p246_17 [7] (fun i => Nat.beq i 2) (by kernel_rfl) fun pan K hp hK => ?_)
          show aCall _ _ _ _ _ _ _
          have sp3 := ihT n (by omega) a2 (nx s q2)
          cases hr3 : termF s n a2 (nx s q2) with
          | out =>
            simp only [factorF, eqW, isD, Bool.and_false, R.bind, h1, h2, h3, h4, hr1, h5, hr2, hr3] at hG
            exact absurd hG.symm hne
          | bad q3 c3 =>
            rw [hr3] at sp3
            refine aCall_pan (L := [0]) rfl rfl rfl (sp3 (fun e => nomatch e)) rfl rfl rfl rfl ?_
            refine hp _ _ ?_
            simp only [factorF, eqW, isD, Bool.and_false, R.bind, h1, h2, h3, h4, hr1, h5, hr2, hr3] at hG
            subst hG
            exact ⟨[0, 3], _, rfl, rfl, rfl, rfl, rfl⟩
          | ok a3 q3 =>
            obtain ⟨o3, n3, m3, l3⟩ := a3
            rw [hr3] at sp3
            refine aCall_ret (L := [0]) rfl rfl rfl (sp3 (fun e => nomatch e)) rfl rfl rfl rfl ?_
            refine hK _ ?_; clear hK hp K pan; refine awp_norm [0, 4, 8] rfl rfl ?_; refine rgn fun pan K hp hK => ?_; show aCall _ _ _ _ _ _ _
            have sp4 := takeP_spec t u s ⟨#[93]⟩ q3 hs
            cases hr4 : takeF s ⟨#[93]⟩ q3 with
            | out =>
              simp only [factorF, eqW, isD, Bool.and_false, R.bind, h1, h2, h3, h4, hr1, h5, hr2, hr3, hr4] at hG
              exact absurd hG.symm hne
            | bad q4 c4 =>
              rw [hr4] at sp4
              refine aCall_pan (L := [0]) rfl rfl rfl (sp4 (fun e => nomatch e)) rfl rfl rfl rfl ?_
              refine hp _ _ ?_
              simp only [factorF, eqW, isD, Bool.and_false, R.bind, h1, h2, h3, h4, hr1, h5, hr2, hr3, hr4] at hG
              subst hG
              exact ⟨[0, 3], _, rfl, rfl, rfl, rfl, rfl⟩
            | ok a4 q4 =>
              rw [hr4] at sp4
              refine aCall_ret (L := [0]) rfl rfl rfl (sp4 (fun e => nomatch e)) rfl rfl rfl rfl ?_
              refine hK _ ?_; clear hK hp K pan; refine awp_norm [4, 8] rfl rfl ?_; refine awp_seq ?_; refine rgn fun pan K hp hK => ?_; refine hK _ ?_; clear hK hp K pan; refine awp_norm [4] rfl rfl ?_; refine awp_ret ?_
              simp only [factorF, eqW, isD, Bool.and_false, R.bind, h1, h2, h3, h4, hr1, h5, hr2, hr3, hr4] at hG
              subst hG
              exact ⟨_, [0], _, [encE _], rfl, rfl, rfl, rfl, rfl, (by first | exact PWs.refl _ | (refine PWs.cons (PW.d ?_) PWs.nil; repeat (first | exact DW.refl _ | refine DW.agg ?_ | refine DWs.cons ?_ ?_ | exact DWs.nil | exact DW.nil _))), rfl⟩
      refine awp_skip ?_; refine awp_seq ?_; refine rgn fun pan K hp hK => ?_; refine hK _ ?_; clear hK hp K pan; refine awp_norm [4] rfl rfl ?_; refine awp_ret ?_
      simp only [factorF, eqW, isD, Bool.and_false, R.bind, h1, h2, h3, h4, hr1, h5] at hG
      subst hG
      exact ⟨_, [0], _, [encE _], rfl, rfl, rfl, rfl, rfl, (by first | exact PWs.refl _ | (refine PWs.cons (PW.d ?_) PWs.nil; repeat (first | exact DW.refl _ | refine DW.agg ?_ | refine DWs.cons ?_ ?_ | exact DWs.nil | exact DW.nil _))), rfl⟩
  refine hK _ ?_; clear hK hp K pan; refine awp_norm [0, 1, 4, 43] rfl rfl ?_; refine awp_cond rfl ?_; refine awp_skip ?_; refine awp_seq ?_; refine rgn fun pan K hp hK => ?_; show aCall _ _ _ _ _ _ _
  have sp1 := nameP_spec t u s p hs
  cases hr1 : nameF s p with
  | out =>
    simp only [factorF, eqW, isD, Bool.false_and, R.bind, h1, h2, h3, hr1] at hG
    exact absurd hG.symm hne
  | bad q1 c1 =>
    rw [hr1] at sp1
    refine aCall_pan (L := [0]) rfl rfl rfl (sp1 (fun e => nomatch e)) rfl rfl rfl rfl ?_
    refine hp _ _ ?_
    simp only [factorF, eqW, isD, Bool.false_and, R.bind, h1, h2, h3, hr1] at hG
    subst hG
    exact ⟨[0, 2], _, rfl, rfl, rfl, rfl, rfl⟩
  | ok a1 q1 =>
    rw [hr1] at sp1
    refine aCall_ret (L := [0]) rfl rfl rfl (sp1 (fun e => nomatch e)) rfl rfl rfl rfl ?_
    refine hK _ ?_; clear hK hp K pan; refine awp_norm [0, 1, 4, 8] rfl rfl ?_; refine awp_seq ?_; refine awp_seq ?_; refine rgn fun pan K hp hK => ?_; refine hK _ ?_; clear hK hp K pan; refine awp_norm [0, 1, 4, 8, 67] rfl rfl ?_
    refine awp_cond2 rfl (onB_intro (fun h4 => ?_) (fun h4 => ?_))
    · refine awp_seq ?_; refine rgn fun pan K hp hK => ?_; show aCall _ _ _ _ _ _ _
      have sp2 := deepP_spec t u s q1 d
      cases hr2 : deepF s d q1 with
      | out =>
        simp only [factorF, eqW, isD, Bool.false_and, R.bind, h1, h2, h3, hr1, h4, hr2] at hG
        exact absurd hG.symm hne
      | bad q2 c2 =>
        rw [hr2] at sp2
        refine aCall_pan (L := [0]) rfl rfl rfl (sp2 (fun e => nomatch e)) rfl rfl rfl rfl ?_
        refine hp _ _ ?_
        simp only [factorF, eqW, isD, Bool.false_and, R.bind, h1, h2, h3, hr1, h4, hr2] at hG
        subst hG
        exact ⟨[0, 3], _, rfl, rfl, rfl, rfl, rfl⟩
      | ok a2 q2 =>
        rw [hr2] at sp2
        refine aCall_ret (L := [0]) rfl rfl rfl (sp2 (fun e => nomatch e)) rfl rfl rfl rfl ?_
        refine hK _ ?_; clear hK hp K pan; refine awp_norm [0, 4, 8, 9] rfl rfl ?_; refine awp_seq ?_; refine rgn fun pan K hp hK => ?_; show aCall _ _ _ _ _ _ _
        refine aCall_ret (L := [0]) rfl rfl rfl (nextP_spec _ s q2 hs) rfl rfl rfl rfl ?_
        refine hK _ ?_; clear hK hp K pan; refine awp_norm [0, 4, 8, 9] rfl rfl ?_; refine awp_seq ?_
        refine (awp_draw TT_ok mixed p246_17 [7] (fun i => Nat.beq i 2) (by kernel_rfl) fun pan K hp hK => ?_)
        show aCall _ _ _ _ _ _ _
        have sp3 := ihT n (by omega) a2 (nx s q2)
        cases hr3 : termF s n a2 (nx s q2) with
        | out =>
          simp only [factorF, eqW, isD, Bool.false_and, R.bind, h1, h2, h3, hr1, h4, hr2, hr3] at hG
          exact absurd hG.symm hne
        | bad q3 c3 =>
          rw [hr3] at sp3
          refine aCall_pan (L := [0]) rfl rfl rfl (sp3 (fun e => nomatch e)) rfl rfl rfl rfl ?_
          refine hp _ _ ?_
          simp only [factorF, eqW, isD, Bool.false_and, R.bind, h1, h2, h3, hr1, h4, hr2, hr3] at hG
          subst hG
          exact ⟨[0, 3], _, rfl, rfl, rfl, rfl, rfl⟩
        | ok a3 q3 =>
          obtain ⟨o3, n3, m3, l3⟩ := a3
          rw [hr3] at sp3
          refine aCall_ret (L := [0]) rfl rfl rfl (sp3 (fun e => nomatch e)) rfl rfl rfl rfl ?_
          refine hK _ ?_; clear hK hp K pan; refine awp_norm [0, 4, 8] rfl rfl ?_; refine rgn fun pan K hp hK => ?_; show aCall _ _ _ _ _ _ _
          have sp4 := takeP_spec t u s ⟨#[93]⟩ q3 hs
          cases hr4 : takeF s ⟨#[93]⟩ q3 with
          | out =>
            simp only [factorF, eqW, isD, Bool.false_and, R.bind, h1, h2, h3, hr1, h4, hr2, hr3, hr4] at hG
            exact absurd hG.symm hne
          | bad q4 c4 =>
            rw [hr4] at sp4
            refine aCall_pan (L := [0]) rfl rfl rfl (sp4 (fun e => nomatch e)) rfl rfl rfl rfl ?_
            refine hp _ _ ?_
            simp only [factorF, eqW, isD, Bool.false_and, R.bind, h1, h2, h3, hr1, h4, hr2, hr3, hr4] at hG
            subst hG
            exact ⟨[0, 3], _, rfl, rfl, rfl, rfl, rfl⟩
          | ok a4 q4 =>
            rw [hr4] at sp4
            refine aCall_ret (L := [0]) rfl rfl rfl (sp4 (fun e => nomatch e)) rfl rfl rfl rfl ?_
            refine hK _ ?_; clear hK hp K pan; refine awp_norm [4, 8] rfl rfl ?_; refine awp_seq ?_; refine rgn fun pan K hp hK => ?_; refine hK _ ?_; clear hK hp K pan; refine awp_norm [4] rfl rfl ?_; refine awp_ret ?_
            simp only [factorF, eqW, isD, Bool.false_and, R.bind, h1, h2, h3, hr1, h4, hr2, hr3, hr4] at hG
            subst hG
            exact ⟨_, [0], _, [encE _], rfl, rfl, rfl, rfl, rfl, (by first | exact PWs.refl _ | (refine PWs.cons (PW.d ?_) PWs.nil; repeat (first | exact DW.refl _ | refine DW.agg ?_ | refine DWs.cons ?_ ?_ | exact DWs.nil | exact DW.nil _))), rfl⟩
    refine awp_skip ?_; refine awp_seq ?_; refine rgn fun pan K hp hK => ?_; refine hK _ ?_; clear hK hp K pan; refine awp_norm [4] rfl rfl ?_; refine awp_ret ?_
    simp only [factorF, eqW, isD, Bool.false_and, R.bind, h1, h2, h3, hr1, h4] at hG
    subst hG
    exact ⟨_, [0], _, [encE _], rfl, rfl, rfl, rfl, rfl, (by first | exact PWs.refl _ | (refine PWs.cons (PW.d ?_) PWs.nil; repeat (first | exact DW.refl _ | refine DW.agg ?_ | refine DWs.cons ?_ ?_ | exact DWs.nil | exact DW.nil _))), rfl⟩
theorem terms_ok (s : ByteArray) (hs4 : s.size ≤ 4000) : ∀ n, FacOk t u s n ∧ ProdOk t u s n ∧ TermOk t u s n := by
  have hs : s.size < 4611686018427387904 := by omega
  intro n
  induction n using Nat.strongRecOn with
  | _ n ih =>
    cases n with
    | zero => exact ⟨fun d p h => absurd (by simp only [factorF]) h, fun d p h => absurd (by simp only [productF]) h, fun d p h => absurd (by simp only [termF]) h⟩
    | succ n => exact ⟨fac_step t u s hs4 n (fun m hm => (ih m (by omega)).1) (fun m hm => (ih m (by omega)).2.2), prod_step t u s hs n (fun m hm => (ih m (by omega)).1), term_step t u s hs n (fun m hm => (ih m (by omega)).2.1)⟩
theorem termP_spec (s : ByteArray) (hs4 : s.size ≤ 4000) (n : Nat) : TermOk t u s n := (terms_ok t u s hs4 n).2.2
end
end Go.Abs
end
section
namespace Go.Abs
open Go Go.Proofs
attribute [local irreducible] aCall AWp Sub Spec
def testF (s : ByteArray) (n : Nat) (p : PS s) : R s Ts := (termF s n 1 p).bind fun a q => match isRelF q.w with
  | true => (termF s n 1 (nx s q)).bind fun b q2 => .ok ⟨a, q.w, b⟩ q2
  | false => .bad q 3
def andL (s : ByteArray) : Nat → List Ts → PS s → R s (List Ts)
  | 0, _, _ => .out
  | n + 1, row, p => match eqW p.w ⟨#[97, 110, 100]⟩ with
    | true => (testF s n (nx s p)).bind fun t q => andL s n (row ++ [t]) q
    | false => .ok row p
def rowF (s : ByteArray) (n : Nat) (p : PS s) : R s (List Ts) := match eqW p.w ⟨#[116, 114, 117, 101]⟩ with
  | true => .ok [] (nx s p)
  | false => (testF s n p).bind fun t q => andL s n [t] q
def condL (s : ByteArray) : Nat → List (List Ts) → PS s → R s (List (List Ts))
  | 0, _, _ => .out
  | n + 1, acc, p => (rowF s n p).bind fun row q => match eqW q.w ⟨#[111, 114]⟩ with
    | true => condL s n (acc ++ [row]) (nx s q)
    | false => .ok (acc ++ [row]) q
def condF (s : ByteArray) (n : Nat) (p : PS s) : R s (List (List Ts)) := match eqW p.w ⟨#[102, 97, 108, 115, 101]⟩ with
  | true => .ok [] (nx s p)
  | false => condL s n [] p
def encT : Ts → PV := fun t => .d (.agg t.cs)
def encC : List (List Ts) → PV := fun c => .d (.sl 1 (cnd c))
theorem tss_snoc (l : List Ts) (t : Ts) : tss l ++ [t.cs] = tss (l ++ [t]) := by simp [tss]
theorem cnd_snoc (l : List (List Ts)) (t : List Ts) : cnd l ++ [[.sl 9 (tss t)]] = cnd (l ++ [t]) := by simp [cnd]
theorem tss_length (l : List Ts) : (tss l).length = l.length := by simp [tss]
theorem cnd_length (l : List (List Ts)) : (cnd l).length = l.length := by simp [cnd]
theorem maxLen_eq : maxLen = 9223372036854775807 := rfl
section
variable (t : Nat → TypeId) (u : Nat → Value)
def p276_6 : Plan := (.load 0 (.take 1 (.take 2 (.one 3 (.one 4 (.one 5 .done))))))
theorem testP_spec (s : ByteArray) (hs4 : s.size ≤ 4000) (n : Nat) (p : PS s) : PSpec t u 276 [.box 0 0] s p encT (testF s n p) := by
  intro hne
  obtain ⟨r, hG⟩ : ∃ r, testF s n p = r := ⟨_, rfl⟩
  rw [hG] at hne ⊢
  have hs : s.size < 4611686018427387904 := by omega
  refine spec_of_awp2 TT_ok (N := 24) Tryz.func276 rfl (by rfl) ((by cases r <;> simp [rowsR] at hne ⊢)) rfl ?_
  refine awp_seq ?_; refine rgn fun pan K hp hK => ?_; refine hK _ ?_; clear hK hp K pan; refine awp_norm [0, 2] rfl rfl ?_; refine awp_seq ?_; refine rgn fun pan K hp hK => ?_; show aCall _ _ _ _ _ _ _
  have sp1 := termP_spec t u s hs4 n 1 p
  cases hr1 : termF s n 1 p with
  | out =>
    simp only [testF, R.bind, hr1] at hG
    exact absurd hG.symm hne
  | bad q1 c1 =>
    rw [hr1] at sp1
    refine aCall_pan (L := [0]) rfl rfl rfl (sp1 (fun e => nomatch e)) rfl rfl rfl rfl ?_
    refine hp _ _ ?_
    simp only [testF, R.bind, hr1] at hG
    subst hG
    exact ⟨[0, 2], _, rfl, rfl, rfl, rfl, rfl⟩
  | ok a1 q1 =>
    obtain ⟨o1, n1, m1, l1⟩ := a1
    rw [hr1] at sp1
    refine aCall_ret (L := [0]) rfl rfl rfl (sp1 (fun e => nomatch e)) rfl rfl rfl rfl ?_
    refine hK _ ?_; clear hK hp K pan; refine awp_norm [0, 2, 3] rfl rfl ?_; refine awp_seq ?_; refine rgn fun pan K hp hK => ?_; refine hK _ ?_; clear hK hp K pan; refine awp_norm [0, 2, 3, 4] rfl rfl ?_; refine awp_seq ?_; refine awp_seq ?_; refine rgn fun pan K hp hK => ?_; show aCall _ _ _ _ _ _ _
    refine aCall_ret (L := []) rfl rfl rfl (isRel_spec _ _) rfl rfl rfl rfl ?_
    refine hK _ ?_; clear hK hp K pan; refine awp_norm [0, 2, 3, 4, 13] rfl rfl ?_
    refine awp_cond2 rfl (onB_intro (fun h1 => ?_) (fun h1 => ?_))
    · have h1 := Bool.not_eq_true' _ ▸ h1
      refine rgn fun pan K hp hK => ?_; show aCall _ _ _ _ _ _ _
      refine aCall_pan (L := [0]) rfl rfl rfl (fail_spec (GV t u) 132 s _ _ (t 3) (u 3)) rfl rfl rfl rfl ?_
      refine hp _ _ ?_
      simp only [testF, R.bind, hr1, h1] at hG
      subst hG
      exact ⟨[0, 3], _, rfl, rfl, rfl, rfl, rfl⟩
    have h1 := Bool.not_eq_false' _ ▸ h1
    refine awp_skip ?_; refine awp_seq ?_; refine rgn fun pan K hp hK => ?_; show aCall _ _ _ _ _ _ _
    refine aCall_ret (L := [0]) rfl rfl rfl (nextP_spec _ s q1 hs) rfl rfl rfl rfl ?_
    refine hK _ ?_; clear hK hp K pan; refine awp_norm [0, 2, 3, 4] rfl rfl ?_; refine awp_seq ?_
    refine (awp_draw TT_ok mixed p276_6 [5] (fun i => Nat.beq i 2) (by kernel_rfl) fun pan K hp hK => ?_)
    show aCall _ _ _ _ _ _ _
    have sp2 := termP_spec t u s hs4 n 1 (nx s q1)
    cases hr2 : termF s n 1 (nx s q1) with
    | out =>
      simp only [testF, R.bind, hr1, h1, hr2] at hG
      exact absurd hG.symm hne
    | bad q2 c2 =>
      rw [hr2] at sp2
      refine aCall_pan (L := [0]) rfl rfl rfl (sp2 (fun e => nomatch e)) rfl rfl rfl rfl ?_
      refine hp _ _ ?_
      simp only [testF, R.bind, hr1, h1, hr2] at hG
      subst hG
      exact ⟨[0, 3], _, rfl, rfl, rfl, rfl, rfl⟩
    | ok a2 q2 =>
      obtain ⟨o2, n2, m2, l2⟩ := a2
      rw [hr2] at sp2
      refine aCall_ret (L := [0]) rfl rfl rfl (sp2 (fun e => nomatch e)) rfl rfl rfl rfl ?_
      refine hK _ ?_; clear hK hp K pan; refine awp_norm [2] rfl rfl ?_; refine awp_ret ?_
      simp only [testF, R.bind, hr1, h1, hr2] at hG
      subst hG
      exact ⟨_, [0], _, [encT _], rfl, rfl, rfl, rfl, rfl, (by first | exact PWs.refl _ | (refine PWs.cons (PW.d ?_) PWs.nil; repeat (first | exact DW.refl _ | refine DW.agg ?_ | refine DWs.cons ?_ ?_ | exact DWs.nil | exact DW.nil _))), rfl⟩
theorem condP_spec (s : ByteArray) (hs4 : s.size ≤ 4000) (n : Nat) (hn : n ≤ 1000000) (p : PS s) : PSpec t u 245 [.box 0 0] s p encC (condF s n p) := by
  intro hne
  obtain ⟨r, hG⟩ : ∃ r, condF s n p = r := ⟨_, rfl⟩
  rw [hG] at hne ⊢
  have hs : s.size < 4611686018427387904 := by omega
  refine spec_of_awp2 TT_ok (N := 30) Tryz.func245 rfl (by rfl) ((by cases r <;> simp [rowsR] at hne ⊢)) rfl ?_
  refine awp_seq ?_; refine rgn fun pan K hp hK => ?_; refine hK _ ?_; clear hK hp K pan; refine awp_norm [0] rfl rfl ?_; refine awp_seq ?_; refine awp_seq ?_; refine rgn fun pan K hp hK => ?_; show aCall _ _ _ _ _ _ _
  cases hr1 : (p.w.toList == (⟨#[102, 97, 108, 115, 101]⟩ : ByteArray).toList) with
  | true =>
    refine aCall_ret (L := [0]) rfl rfl rfl (hasP_yes (GV t u) s _ p hs hr1) rfl rfl rfl rfl ?_
    refine hK _ ?_; clear hK hp K pan; refine awp_norm [0, 6] rfl rfl ?_; refine awp_cond rfl ?_; refine awp_seq ?_; refine rgn fun pan K hp hK => ?_; refine hK _ ?_; clear hK hp K pan; refine awp_norm [2] rfl rfl ?_; refine awp_ret ?_
    simp only [condF, eqW, hr1] at hG
    subst hG
    exact ⟨_, [0], _, [encC _], rfl, rfl, rfl, rfl, rfl, (by first | exact PWs.refl _ | (refine PWs.cons (PW.d ?_) PWs.nil; repeat (first | exact DW.refl _ | refine DW.agg ?_ | refine DWs.cons ?_ ?_ | exact DWs.nil | exact DW.nil _))), rfl⟩
  | false =>
    refine aCall_ret (L := [0]) rfl rfl rfl (hasP_no (GV t u) s _ p hr1) rfl rfl rfl rfl ?_
    refine hK _ ?_; clear hK hp K pan; refine awp_norm [0, 6] rfl rfl ?_; refine awp_cond rfl ?_; refine awp_skip ?_; refine awp_seq ?_; refine rgn fun pan K hp hK => ?_; refine hK _ ?_; clear hK hp K pan; refine awp_norm [0, 3] rfl rfl ?_
    simp only [condF, eqW, hr1] at hG
    refine awp_acc 3 123 1 rfl rfl rfl ?_
    refine awp_norm [0, 3] rfl rfl ?_; refine awp_block ?_
    refine awp_loop (fun k Y => ∃ acc q, acc.length + k ≤ n ∧ condL s k acc q = r ∧ Y = ⟨[(0, .box 0 0), (3, .acc 1)], [rd s q, .acc 123 1 (cnd acc)]⟩) (n) (⟨[], p, by simp, hG, rfl⟩) ?_
    clear hG
    rintro k Y ⟨acc, q, hk, hG, rfl⟩
    cases k with
    | zero => simp only [condL] at hG; exact absurd hG.symm hne
    | succ m =>
      refine awp_block ?_; refine awp_seq ?_; refine rgn fun pan K hp hK => ?_; refine hK _ ?_; clear hK hp K pan; refine awp_norm [0, 3, 4] rfl rfl ?_
      refine awp_acc 4 282 9 rfl rfl rfl ?_
      refine awp_norm [0, 3, 4] rfl rfl ?_; refine awp_seq ?_; refine awp_seq ?_; refine rgn fun pan K hp hK => ?_; show aCall _ _ _ _ _ _ _
      cases hr2 : (q.w.toList == (⟨#[116, 114, 117, 101]⟩ : ByteArray).toList) with
      | true =>
        refine aCall_ret (L := [0]) rfl rfl rfl (hasP_yes (GV t u) s _ q hs hr2) rfl rfl rfl rfl ?_
        refine hK _ ?_; clear hK hp K pan; refine awp_norm [0, 3, 4, 9] rfl rfl ?_; refine awp_cond rfl ?_; refine awp_skip ?_; refine awp_seq ?_; refine rgn fun pan K hp hK => ?_
        refine And.intro (And.intro (by simp only [chunk_length, cnd_length]; omega) (by simp only [chunk_length, cnd_length, maxLen_eq]; omega)) ?_
        refine hK _ ?_; clear hK hp K pan; refine awp_norm [0, 3] rfl rfl ?_; refine awp_seq ?_; refine rgn fun pan K hp hK => ?_; show aCall _ _ _ _ _ _ _
        cases hr3 : ((nx s q).w.toList == (⟨#[111, 114]⟩ : ByteArray).toList) with
        | true =>
          refine aCall_ret (L := [0]) rfl rfl rfl (hasP_yes (GV t u) s _ (nx s q) hs hr3) rfl rfl rfl rfl ?_
          refine hK _ ?_; clear hK hp K pan; refine awp_norm [0, 3, 28] rfl rfl ?_; refine awp_cond rfl ?_; refine awp_skip ?_
          simp only [condL, rowF, eqW, R.bind, hr2, hr3] at hG
          exact ⟨m, Nat.lt_succ_self m, _, sub_pick (L := [0, 1]) (slots := [0, 3]) rfl rfl rfl rfl rfl, _, _, by simp only [List.length_append, List.length_cons, List.length_nil]; omega, hG, by first | rfl | (rw [← cnd_snoc]; rfl)⟩
        | false =>
          refine aCall_ret (L := [0]) rfl rfl rfl (hasP_no (GV t u) s _ (nx s q) hr3) rfl rfl rfl rfl ?_
          refine hK _ ?_; clear hK hp K pan; refine awp_norm [0, 3, 28] rfl rfl ?_; refine awp_cond rfl ?_; refine awp_seq ?_; refine rgn fun pan K hp hK => ?_; refine hK _ ?_; clear hK hp K pan; refine awp_norm [2] rfl rfl ?_; refine awp_ret ?_
          simp only [condL, rowF, eqW, R.bind, hr2, hr3] at hG
          subst hG
          exact ⟨_, [0], _, [encC _], rfl, rfl, rfl, rfl, rfl, by first | exact PWs.refl _ | (simp only [encC, ← cnd_snoc]; exact PWs.refl _), rfl⟩
      | false =>
        refine aCall_ret (L := [0]) rfl rfl rfl (hasP_no (GV t u) s _ q hr2) rfl rfl rfl rfl ?_
        refine hK _ ?_; clear hK hp K pan; refine awp_norm [0, 3, 4, 9] rfl rfl ?_; refine awp_cond rfl ?_; refine awp_seq ?_; refine rgn fun pan K hp hK => ?_; show aCall _ _ _ _ _ _ _
        have sp3 := testP_spec t u s hs4 m q
        cases hr3 : testF s m q with
        | out =>
          simp only [condL, rowF, eqW, R.bind, hr2, hr3] at hG
          exact absurd hG.symm hne
        | bad q3 c3 =>
          rw [hr3] at sp3
          refine aCall_pan (L := [0]) rfl rfl rfl (sp3 (fun e => nomatch e)) rfl rfl rfl rfl ?_
          refine hp _ _ ?_
          simp only [condL, rowF, eqW, R.bind, hr2, hr3] at hG
          subst hG
          exact ⟨[0, 3], _, rfl, rfl, rfl, rfl, rfl⟩
        | ok a3 q3 =>
          obtain ⟨⟨o3, n3, m3, l3⟩, w3, ⟨o3b, n3b, m3b, l3b⟩⟩ := a3
          rw [hr3] at sp3
          refine aCall_ret (L := [0]) rfl rfl rfl (sp3 (fun e => nomatch e)) rfl rfl rfl rfl ?_
          refine And.intro (And.intro (by simp only [chunk_length, List.length_nil]; omega) (by simp only [chunk_length, List.length_nil, maxLen_eq]; omega)) ?_
          refine hK _ ?_; clear hK hp K pan; refine awp_norm [0, 3, 4] rfl rfl ?_; refine awp_block ?_
          simp only [condL, rowF, eqW, hr2, hr3, R.bind] at hG
          clear hr3 sp3
          refine awp_loop (fun k Y => ∃ row q, row.length + k ≤ m + 1 ∧ ((andL s k row q).bind fun row q => match eqW q.w ⟨#[111, 114]⟩ with | true => condL s m (acc ++ [row]) (nx s q) | false => .ok (acc ++ [row]) q) = r ∧ Y = ⟨[(0, .box 0 0), (3, .acc 1), (4, .acc 2)], [rd s q, .acc 123 1 (cnd acc), .acc 282 9 (tss row)]⟩) (m) (⟨[_], q3, by simp only [List.length_cons, List.length_nil]; omega, hG, rfl⟩) ?_
          clear hG
          rintro k Y ⟨row, q5, hk2, hG, rfl⟩
          cases k with
          | zero => simp only [andL, R.bind] at hG; exact absurd hG.symm hne
          | succ m2 =>
            refine awp_seq ?_; refine awp_seq ?_; refine rgn fun pan K hp hK => ?_; show aCall _ _ _ _ _ _ _
            cases hr6 : (q5.w.toList == (⟨#[97, 110, 100]⟩ : ByteArray).toList) with
            | true =>
              refine aCall_ret (L := [0]) rfl rfl rfl (hasP_yes (GV t u) s _ q5 hs hr6) rfl rfl rfl rfl ?_
              refine hK _ ?_; clear hK hp K pan; refine awp_norm [0, 3, 4, 16] rfl rfl ?_; refine awp_cond rfl ?_; refine awp_skip ?_; refine awp_block ?_; refine rgn fun pan K hp hK => ?_; show aCall _ _ _ _ _ _ _
              have sp7 := testP_spec t u s hs4 m2 (nx s q5)
              cases hr7 : testF s m2 (nx s q5) with
              | out =>
                simp only [andL, eqW, R.bind, hr6, hr7] at hG
                exact absurd hG.symm hne
              | bad q7 c7 =>
                rw [hr7] at sp7
                refine aCall_pan (L := [0]) rfl rfl rfl (sp7 (fun e => nomatch e)) rfl rfl rfl rfl ?_
                refine hp _ _ ?_
                simp only [andL, eqW, R.bind, hr6, hr7] at hG
                subst hG
                exact ⟨[0, 3], _, rfl, rfl, rfl, rfl, rfl⟩
              | ok a7 q7 =>
                obtain ⟨⟨o7, n7, m7, l7⟩, w7, ⟨o7b, n7b, m7b, l7b⟩⟩ := a7
                rw [hr7] at sp7
                refine aCall_ret (L := [0]) rfl rfl rfl (sp7 (fun e => nomatch e)) rfl rfl rfl rfl ?_
                refine And.intro (And.intro (by simp only [chunk_length, tss_length]; omega) (by simp only [chunk_length, tss_length, maxLen_eq]; omega)) ?_
                refine hK _ ?_; clear hK hp K pan
                simp only [andL, eqW, R.bind, hr6, hr7] at hG
                exact ⟨m2, Nat.lt_succ_self m2, _, sub_norm (slots := [0, 3, 4]) rfl rfl, _, _, by simp only [List.length_append, List.length_cons, List.length_nil]; omega, hG, by rw [← tss_snoc]; rfl⟩
            | false =>
              refine aCall_ret (L := [0]) rfl rfl rfl (hasP_no (GV t u) s _ q5 hr6) rfl rfl rfl rfl ?_
              refine hK _ ?_; clear hK hp K pan; refine awp_norm [0, 3, 4, 16] rfl rfl ?_; refine awp_cond rfl ?_
              refine awp_exit ?_
              refine awp_seq ?_; refine rgn fun pan K hp hK => ?_
              refine And.intro (And.intro (by simp only [chunk_length, cnd_length]; omega) (by simp only [chunk_length, cnd_length, maxLen_eq]; omega)) ?_
              refine hK _ ?_; clear hK hp K pan; refine awp_norm [0, 3] rfl rfl ?_; refine awp_seq ?_; refine rgn fun pan K hp hK => ?_; show aCall _ _ _ _ _ _ _
              cases hr7 : (q5.w.toList == (⟨#[111, 114]⟩ : ByteArray).toList) with
              | true =>
                refine aCall_ret (L := [0]) rfl rfl rfl (hasP_yes (GV t u) s _ q5 hs hr7) rfl rfl rfl rfl ?_
                refine hK _ ?_; clear hK hp K pan; refine awp_norm [0, 3, 28] rfl rfl ?_; refine awp_cond rfl ?_; refine awp_skip ?_
                simp only [andL, eqW, R.bind, hr6, hr7] at hG
                exact ⟨m, Nat.lt_succ_self m, _, sub_pick (L := [0, 1]) (slots := [0, 3]) rfl rfl rfl rfl rfl, _, _, by simp only [List.length_append, List.length_cons, List.length_nil]; omega, hG, by first | rfl | (rw [← cnd_snoc]; rfl)⟩
              | false =>
                refine aCall_ret (L := [0]) rfl rfl rfl (hasP_no (GV t u) s _ q5 hr7) rfl rfl rfl rfl ?_
                refine hK _ ?_; clear hK hp K pan; refine awp_norm [0, 3, 28] rfl rfl ?_; refine awp_cond rfl ?_; refine awp_seq ?_; refine rgn fun pan K hp hK => ?_; refine hK _ ?_; clear hK hp K pan; refine awp_norm [2] rfl rfl ?_; refine awp_ret ?_
                simp only [andL, eqW, R.bind, hr6, hr7] at hG
                subst hG
                exact ⟨_, [0], _, [encC _], rfl, rfl, rfl, rfl, rfl, by first | exact PWs.refl _ | (simp only [encC, ← cnd_snoc]; exact PWs.refl _), rfl⟩
end
end Go.Abs
end
