/- Texts of this proof, joined: AbsMA, AbsMB, AbsMC, AbsNA, AbsND, AbsNE. -/
import Derived.Test.YtedljfabpknjiaaGreatDoorR11
import Derived.Test.YtedljfabpknjiaaGreatDoorR8
import Derived.Lib.AtoiAllCases
section
namespace Go.Abs
open Go Go.Proofs
attribute [local irreducible] aCall AWp Sub Spec
/-- Words and where they begin; where the reference's reader stands, and its fault. -/
abbrev Wd := ByteArray × Int
def wds (W : List Wd) : List (List Data) := W.map fun w => [str w.1, num w.2]
structure RSt where
  k : Nat
  c : Int
  a : Int
def wat (W : List Wd) (k : Nat) : Wd := W.getD k (⟨#[]⟩, 0)
def PB (W : List Wd) (X : RSt) : Row := .box 138 [.d (.sl 2 (wds W)), .d (num X.k), .d (num X.c), .d (num X.a)]
theorem wds_len (W : List Wd) : (wds W).length = W.length := by simp [wds]
theorem wds_at {W : List Wd} {k : Nat} (h : k < W.length) : (wds W)[((k : Nat) : Int).toNat]? = some [str (wat W k).1, num (wat W k).2] := by
  rw [Int.toNat_natCast]
  simp [wds, wat, List.getD_eq_getElem?_getD, List.getElem?_eq_getElem h]
def wrd (W : List Wd) (X : RSt) : ByteArray := match decide (X.c > 0) with
  | true => ⟨#[]⟩
  | false => (wat W X.k).1
def failW (W : List Wd) (c : Int) (X : RSt) : RSt := match X.c == 0 with
  | true => ⟨X.k, c, (wat W X.k).2⟩
  | false => X
def passW (W : List Wd) (X : RSt) : RSt := match X.c == 0 with
  | true => match decide ((X.k : Int) + 1 < (W.length : Int)) with
    | true => ⟨X.k + 1, X.c, X.a⟩
    | false => X
  | false => X
def wantW (W : List Wd) (x : ByteArray) (X : RSt) : RSt := match decide (X.c > 0) with
  | true => X
  | false => match eqW (wrd W X) x with
    | true => passW W X
    | false => failW W 1 X
def hasW (W : List Wd) (x : ByteArray) (X : RSt) : Bool × RSt := match decide (X.c > 0) with
  | true => (false, X)
  | false => match eqW (wrd W X) x with
    | true => (true, passW W X)
    | false => (false, X)
def nameW (W : List Wd) (X : RSt) : ByteArray × RSt := match isNameF (wrd W X) with
  | true => (wrd W X, passW W X)
  | false => (⟨#[]⟩, failW W 1 X)
structure WOk (W : List Wd) : Prop where
  len : W.length ≤ 100000
  size : ∀ k, (wat W k).1.size ≤ 1000000
theorem WOk.wrd {W : List Wd} (h : WOk W) (X : RSt) : (wrd W X).size < 4611686018427387904 := by
  unfold Go.Abs.wrd
  cases decide (X.c > 0) with
  | true => exact (by decide : (⟨#[]⟩ : ByteArray).size < 4611686018427387904)
  | false => have := h.size X.k; simp only; omega
theorem failW_k (W : List Wd) (c : Int) (X : RSt) : (failW W c X).k = X.k := by unfold failW; cases X.c == 0 <;> rfl
theorem passW_k {W : List Wd} {X : RSt} (h : X.k < W.length) : (passW W X).k < W.length := by
  unfold passW
  cases X.c == 0 with
  | false => exact h
  | true =>
    cases hd : decide ((X.k : Int) + 1 < (W.length : Int)) with
    | false => exact h
    | true => have := of_decide_eq_true hd; show X.k + 1 < W.length; omega
theorem wantW_k {W : List Wd} {x : ByteArray} {X : RSt} (h : X.k < W.length) : (wantW W x X).k < W.length := by
  unfold wantW
  cases decide (X.c > 0) with
  | true => exact h
  | false =>
    cases eqW (wrd W X) x with
    | true => exact passW_k h
    | false => simp only; rw [failW_k]; exact h
theorem hasW_k {W : List Wd} {x : ByteArray} {X : RSt} (h : X.k < W.length) : (hasW W x X).2.k < W.length := by
  unfold hasW
  cases decide (X.c > 0) with
  | true => exact h
  | false =>
    cases eqW (wrd W X) x with
    | true => exact passW_k h
    | false => exact h
theorem nameW_k {W : List Wd} {X : RSt} (h : X.k < W.length) : (nameW W X).2.k < W.length := by
  unfold nameW
  cases isNameF (wrd W X) with
  | true => exact passW_k h
  | false => simp only; rw [failW_k]; exact h
section
variable {G : Glob} {W : List Wd}
def p62_3 : Plan := (.take 0 (.take 1 (.take 2 (.load 3 (.take 4 (.take 5 (.take 6 (.load 7 (.take 8 (.take 9 (.load 10 (.take 11 .done))))))))))))
theorem wordR_spec (X : RSt) (hk : X.k < W.length) (w : ByteArray) (hG : wrd W X = w) : Spec Tryz.prog G 62 [.box 0 0] [PB W X] (.ret (.d (str w))) [PB W X] := by
  refine spec_of_awp2 TT_ok (N := 20) Tryz.func62 rfl (by rfl) (Nat.le_refl _) rfl ?_
  refine awp_seq ?_; refine rgn fun pan K hp hK => ?_; refine hK _ ?_; clear hK hp K pan; refine awp_norm [0] rfl rfl ?_; refine awp_seq ?_; refine awp_seq ?_; refine rgn fun pan K hp hK => ?_; refine hK _ ?_; clear hK hp K pan; refine awp_norm [0, 8] rfl rfl ?_
  refine awp_cond2 rfl (onB_intro (fun h1 => ?_) (fun h1 => ?_))
  · refine awp_seq ?_; refine rgn fun pan K hp hK => ?_; refine hK _ ?_; clear hK hp K pan; refine awp_norm [2] rfl rfl ?_; refine awp_ret ?_
    simp only [wrd, h1] at hG
    subst hG
    exact ⟨_, [0], _, [.d (str _)], rfl, rfl, rfl, rfl, rfl, PWs.refl _, rfl⟩
  refine awp_skip ?_; refine awp_seq ?_
  refine (awp_draw TT_ok mixed p62_3 [] (fun _ => true) (by kernel_rfl) fun pan K hp hK => ?_)
  refine And.intro (by omega) (Exists.intro _ (And.intro (wds_at hk) ?_))
  refine hK _ ?_; clear hK hp K pan; refine awp_norm [2] rfl rfl ?_; refine awp_ret ?_
  simp only [wrd, h1] at hG
  subst hG
  exact ⟨_, [0], _, [.d (str _)], rfl, rfl, rfl, rfl, rfl, PWs.refl _, rfl⟩
def p66_1 : Plan := (.take 0 (.take 1 (.take 2 (.take 3 (.take 4 (.load 5 (.take 6 (.take 7 (.take 8 (.load 9 (.take 10 (.take 11 (.load 12 (.one 13 (.take 14 (.take 15 (.one 16 .done)))))))))))))))))
theorem failR_spec (X : RSt) (hk : X.k < W.length) (c : Int) (Y : RSt) (hG : failW W c X = Y) : Spec Tryz.prog G 66 [.box 0 0, .d (num c)] [PB W X] (.ret (.tup [])) [PB W Y] := by
  refine spec_of_awp2 TT_ok (N := 26) Tryz.func66 rfl (by rfl) (Nat.le_refl _) rfl ?_
  refine awp_seq ?_; refine rgn fun pan K hp hK => ?_; refine hK _ ?_; clear hK hp K pan; refine awp_norm [0, 1, 9] rfl rfl ?_
  refine awp_cond2 rfl (onB_intro (fun h1 => ?_) (fun h1 => ?_))
  · refine (awp_draw TT_ok mixed p66_1 [16] (fun _ => true) (by kernel_rfl) fun pan K hp hK => ?_)
    refine And.intro (by omega) (Exists.intro _ (And.intro (wds_at hk) ?_))
    refine hK _ ?_; clear hK hp K pan
    simp only [failW, h1] at hG
    subst hG
    exact ⟨_, [0], _, [], rfl, rfl, rfl, rfl, rfl, PWs.refl _, rfl⟩
  refine awp_skip ?_
  simp only [failW, h1] at hG
  subst hG
  exact ⟨_, [0], _, [], rfl, rfl, rfl, rfl, rfl, PWs.refl _, rfl⟩
def p143_0 : Plan := (.take 0 (.take 1 (.take 2 (.take 3 (.load 4 (.take 5 (.take 6 (.take 7 (.take 8 (.take 9 (.load 10 (.take 11 (.take 12 (.take 13 (.take 14 (.load 15 (.take 16 (.take 17 (.take 18 .done)))))))))))))))))))
theorem passR_spec (X : RSt) (hk : X.k < W.length) (hW : WOk W) (Y : RSt) (hG : passW W X = Y) : Spec Tryz.prog G 143 [.box 0 0] [PB W X] (.ret (.tup [])) [PB W Y] := by
  refine spec_of_awp2 TT_ok (N := 28) Tryz.func143 rfl (by rfl) (Nat.le_refl _) rfl ?_
  refine awp_seq ?_
  refine (awp_draw TT_ok mixed p143_0 [] (fun _ => true) (by kernel_rfl) fun pan K hp hK => ?_)
  refine onB_intro (fun h1 => ?_) (fun h1 => ?_)
  · refine hK _ ?_; clear hK hp K pan; refine awp_norm [0, 20] rfl rfl ?_
    refine awp_cond2 rfl (onB_intro (fun h2 => ?_) (fun h2 => ?_))
    · have hl := hW.len
      rw [wrapId (by omega) (by omega), wds_len] at h2
      refine rgn fun pan K hp hK => ?_; refine hK _ ?_; clear hK hp K pan
      rw [wrapId (by omega) (by omega)]
      simp only [passW, h1, h2] at hG
      subst hG
      exact ⟨_, [0], _, [], rfl, rfl, rfl, rfl, rfl, PWs.nil, rfl⟩
    have hl := hW.len
    rw [wrapId (by omega) (by omega), wds_len] at h2
    refine awp_skip ?_
    simp only [passW, h1, h2] at hG
    subst hG
    exact ⟨_, [0], _, [], rfl, rfl, rfl, rfl, rfl, PWs.nil, rfl⟩
  refine hK _ ?_; clear hK hp K pan; refine awp_norm [0, 20] rfl rfl ?_; refine awp_cond rfl ?_; refine awp_skip ?_
  simp only [passW, h1] at hG
  subst hG
  exact ⟨_, [0], _, [], rfl, rfl, rfl, rfl, rfl, PWs.nil, rfl⟩
theorem wantR_spec (X : RSt) (hk : X.k < W.length) (hW : WOk W) (x : ByteArray) (Y : RSt) (hG : wantW W x X = Y) : Spec Tryz.prog G 60 [.box 0 0, .d (str x)] [PB W X] (.ret (.tup [])) [PB W Y] := by
  refine spec_of_awp2 TT_ok (N := 18) Tryz.func60 rfl (by rfl) (Nat.le_refl _) rfl ?_
  refine awp_seq ?_; refine awp_seq ?_; refine rgn fun pan K hp hK => ?_; refine hK _ ?_; clear hK hp K pan; refine awp_norm [0, 1, 9] rfl rfl ?_
  refine awp_cond2 rfl (onB_intro (fun h1 => ?_) (fun h1 => ?_))
  · refine awp_ret ?_
    simp only [wantW, h1] at hG
    subst hG
    exact ⟨_, [0], _, [], rfl, rfl, rfl, rfl, rfl, PWs.nil, rfl⟩
  refine awp_skip ?_; refine awp_seq ?_; refine awp_seq ?_; refine rgn fun pan K hp hK => ?_; show aCall _ _ _ _ _ _ _
  refine aCall_ret (L := [0]) rfl rfl rfl (wordR_spec X hk _ rfl) rfl rfl rfl rfl ?_
  refine hK _ ?_; clear hK hp K pan; refine awp_norm [0, 13] rfl rfl ?_
  refine awp_cond2 rfl (onB_intro (fun h2 => ?_) (fun h2 => ?_))
  · have eh2 : eqW (wrd W X) x = false := by simpa [eqW] using h2
    refine awp_seq ?_; refine rgn fun pan K hp hK => ?_; show aCall _ _ _ _ _ _ _
    refine aCall_ret (L := [0]) rfl rfl rfl (failR_spec X hk _ _ rfl) rfl rfl rfl rfl ?_
    refine hK _ ?_; clear hK hp K pan; refine awp_norm [] rfl rfl ?_; refine awp_ret ?_
    simp only [wantW, h1, eh2] at hG
    subst hG
    exact ⟨_, [0], _, [], rfl, rfl, rfl, rfl, rfl, PWs.nil, rfl⟩
  have eh2 : eqW (wrd W X) x = true := by simpa [eqW] using h2
  refine awp_skip ?_; refine rgn fun pan K hp hK => ?_; show aCall _ _ _ _ _ _ _
  refine aCall_ret (L := [0]) rfl rfl rfl (passR_spec X hk hW _ rfl) rfl rfl rfl rfl ?_
  refine hK _ ?_; clear hK hp K pan
  simp only [wantW, h1, eh2] at hG
  subst hG
  exact ⟨_, [0], _, [], rfl, rfl, rfl, rfl, rfl, PWs.nil, rfl⟩
theorem hasR_spec (X : RSt) (hk : X.k < W.length) (hW : WOk W) (x : ByteArray) (r : Bool × RSt) (hG : hasW W x X = r) : Spec Tryz.prog G 58 [.box 0 0, .d (str x)] [PB W X] (.ret (.d (.s (.bool r.1)))) [PB W r.2] := by
  refine spec_of_awp2 TT_ok (N := 19) Tryz.func58 rfl (by rfl) (Nat.le_refl _) rfl ?_
  refine awp_seq ?_; refine rgn fun pan K hp hK => ?_; refine hK _ ?_; clear hK hp K pan; refine awp_norm [0, 1] rfl rfl ?_; refine awp_seq ?_; refine awp_seq ?_; refine rgn fun pan K hp hK => ?_
  refine onB_intro (fun h1 => ?_) (fun h1 => ?_)
  · refine hK _ ?_; clear hK hp K pan; refine awp_norm [0, 16] rfl rfl ?_; refine awp_cond rfl ?_; refine awp_seq ?_; refine rgn fun pan K hp hK => ?_; refine hK _ ?_; clear hK hp K pan; refine awp_norm [4] rfl rfl ?_; refine awp_ret ?_
    simp only [hasW, h1] at hG
    subst hG
    exact ⟨_, [0], _, [.d (.s (.bool _))], rfl, rfl, rfl, rfl, rfl, PWs.refl _, rfl⟩
  show aCall _ _ _ _ _ _ _
  refine aCall_ret (L := [0]) rfl rfl rfl (wordR_spec X hk _ rfl) rfl rfl rfl rfl ?_
  refine hK _ ?_; clear hK hp K pan; refine awp_norm [0, 16] rfl rfl ?_
  refine awp_cond2 rfl (onB_intro (fun h2 => ?_) (fun h2 => ?_))
  · have eh2 : eqW (wrd W X) x = false := by simpa [eqW] using h2
    refine awp_seq ?_; refine rgn fun pan K hp hK => ?_; refine hK _ ?_; clear hK hp K pan; refine awp_norm [4] rfl rfl ?_; refine awp_ret ?_
    simp only [hasW, h1, eh2] at hG
    subst hG
    exact ⟨_, [0], _, [.d (.s (.bool _))], rfl, rfl, rfl, rfl, rfl, PWs.refl _, rfl⟩
  have eh2 : eqW (wrd W X) x = true := by simpa [eqW] using h2
  refine awp_skip ?_; refine awp_seq ?_; refine rgn fun pan K hp hK => ?_; show aCall _ _ _ _ _ _ _
  refine aCall_ret (L := [0]) rfl rfl rfl (passR_spec X hk hW _ rfl) rfl rfl rfl rfl ?_
  refine hK _ ?_; clear hK hp K pan; refine awp_norm [] rfl rfl ?_; refine awp_seq ?_; refine rgn fun pan K hp hK => ?_; refine hK _ ?_; clear hK hp K pan; refine awp_norm [4] rfl rfl ?_; refine awp_ret ?_
  simp only [hasW, h1, eh2] at hG
  subst hG
  exact ⟨_, [0], _, [.d (.s (.bool _))], rfl, rfl, rfl, rfl, rfl, PWs.refl _, rfl⟩
theorem nameR_spec (X : RSt) (hk : X.k < W.length) (hW : WOk W) (r : ByteArray × RSt) (hG : nameW W X = r) : Spec Tryz.prog G 59 [.box 0 0] [PB W X] (.ret (.d (str r.1))) [PB W r.2] := by
  refine spec_of_awp2 TT_ok (N := 16) Tryz.func59 rfl (by rfl) (Nat.le_refl _) rfl ?_
  refine awp_seq ?_; refine rgn fun pan K hp hK => ?_; refine hK _ ?_; clear hK hp K pan; refine awp_norm [0] rfl rfl ?_; refine awp_seq ?_; refine rgn fun pan K hp hK => ?_; show aCall _ _ _ _ _ _ _
  refine aCall_ret (L := [0]) rfl rfl rfl (wordR_spec X hk _ rfl) rfl rfl rfl rfl ?_
  refine hK _ ?_; clear hK hp K pan; refine awp_norm [0, 3] rfl rfl ?_; refine awp_seq ?_; refine rgn fun pan K hp hK => ?_; show aCall _ _ _ _ _ _ _
  refine aCall_ret (L := []) rfl rfl rfl (by have := isNameG_spec G (wrd W X) (hW.wrd X); rw [nameG_eq] at this; exact this) rfl rfl rfl rfl ?_
  refine hK _ ?_; clear hK hp K pan; refine awp_norm [0, 3, 4] rfl rfl ?_; refine awp_seq ?_; refine awp_seq ?_; refine rgn fun pan K hp hK => ?_; refine hK _ ?_; clear hK hp K pan; refine awp_norm [0, 3, 10] rfl rfl ?_
  refine awp_cond2 rfl (onB_intro (fun h1 => ?_) (fun h1 => ?_))
  · have eh1 : isNameF (wrd W X) = false := by simpa using h1
    refine awp_seq ?_; refine rgn fun pan K hp hK => ?_; show aCall _ _ _ _ _ _ _
    refine aCall_ret (L := [0]) rfl rfl rfl (failR_spec X hk _ _ rfl) rfl rfl rfl rfl ?_
    refine hK _ ?_; clear hK hp K pan; refine awp_norm [] rfl rfl ?_; refine awp_seq ?_; refine rgn fun pan K hp hK => ?_; refine hK _ ?_; clear hK hp K pan; refine awp_norm [2] rfl rfl ?_; refine awp_ret ?_
    simp only [nameW, eh1] at hG
    subst hG
    exact ⟨_, [0], _, [.d (str _)], rfl, rfl, rfl, rfl, rfl, PWs.refl _, rfl⟩
  have eh1 : isNameF (wrd W X) = true := by simpa using h1
  refine awp_skip ?_; refine awp_seq ?_; refine rgn fun pan K hp hK => ?_; show aCall _ _ _ _ _ _ _
  refine aCall_ret (L := [0]) rfl rfl rfl (passR_spec X hk hW _ rfl) rfl rfl rfl rfl ?_
  refine hK _ ?_; clear hK hp K pan; refine awp_norm [3] rfl rfl ?_; refine awp_seq ?_; refine rgn fun pan K hp hK => ?_; refine hK _ ?_; clear hK hp K pan; refine awp_norm [2] rfl rfl ?_; refine awp_ret ?_
  simp only [nameW, eh1] at hG
  subst hG
  exact ⟨_, [0], _, [.d (str _)], rfl, rfl, rfl, rfl, rfl, PWs.refl _, rfl⟩
end
end Go.Abs
end
section
namespace Go.Abs
open Go Go.Proofs
attribute [local irreducible] aCall AWp Sub Spec
def kindR (c : Int) : Int := match isL c with
  | true => 1
  | false => match isD c with
    | true => 2
    | false => match isSp c with
      | true => 3
      | false => 4
theorem kind_spec (G : Glob) (c r : Int) (hG : kindR c = r) : Spec Tryz.prog G 142 [.d (.s (.int .u8 c))] [] (.ret (.d (num r))) [] := by
  refine spec_of_awp2 TT_ok (N := 21) Tryz.func142 rfl (by rfl) (Nat.le_refl _) rfl ?_
  refine awp_seq ?_; refine rgn fun pan K hp hK => ?_; refine hK _ ?_; clear hK hp K pan; refine awp_norm [0] rfl rfl ?_; refine awp_seq ?_; refine awp_seq ?_; refine rgn fun pan K hp hK => ?_
  refine onB_intro (fun h1 => ?_) (fun h1 => ?_)
  · refine hK _ ?_; clear hK hp K pan; refine awp_norm [0, 8] rfl rfl ?_
    refine awp_cond2 rfl (onB_intro (fun h2 => ?_) (fun h2 => ?_))
    · refine awp_seq ?_; refine rgn fun pan K hp hK => ?_; refine hK _ ?_; clear hK hp K pan; refine awp_norm [2] rfl rfl ?_; refine awp_ret ?_
      simp only [kindR, isL, h1, h2, Bool.and_self] at hG
      subst hG
      exact ⟨_, [], _, [.d (num _)], rfl, rfl, rfl, rfl, rfl, PWs.refl _, rfl⟩
    refine awp_skip ?_; refine awp_seq ?_; refine awp_seq ?_; refine rgn fun pan K hp hK => ?_
    refine onB_intro (fun h3 => ?_) (fun h3 => ?_)
    · refine hK _ ?_; clear hK hp K pan; refine awp_norm [0, 14] rfl rfl ?_
      refine awp_cond2 rfl (onB_intro (fun h4 => ?_) (fun h4 => ?_))
      · refine awp_seq ?_; refine rgn fun pan K hp hK => ?_; refine hK _ ?_; clear hK hp K pan; refine awp_norm [2] rfl rfl ?_; refine awp_ret ?_
        simp only [kindR, isL, isD, h1, h2, h3, h4, Bool.and_false, Bool.and_self] at hG
        subst hG
        exact ⟨_, [], _, [.d (num _)], rfl, rfl, rfl, rfl, rfl, PWs.refl _, rfl⟩
      refine awp_skip ?_; refine awp_seq ?_; refine awp_seq ?_; refine rgn fun pan K hp hK => ?_
      refine onB_intro (fun h5 => ?_) (fun h5 => ?_)
      · refine hK _ ?_; clear hK hp K pan; refine awp_norm [20] rfl rfl ?_; refine awp_cond rfl ?_; refine awp_seq ?_; refine rgn fun pan K hp hK => ?_; refine hK _ ?_; clear hK hp K pan; refine awp_norm [2] rfl rfl ?_; refine awp_ret ?_
        simp only [kindR, isL, isD, isSp, h1, h2, h3, h4, h5, Bool.true_or, Bool.and_false] at hG
        subst hG
        exact ⟨_, [], _, [.d (num _)], rfl, rfl, rfl, rfl, rfl, PWs.refl _, rfl⟩
      refine hK _ ?_; clear hK hp K pan; refine awp_norm [20] rfl rfl ?_
      refine awp_cond2 rfl (onB_intro (fun h6 => ?_) (fun h6 => ?_))
      · refine awp_seq ?_; refine rgn fun pan K hp hK => ?_; refine hK _ ?_; clear hK hp K pan; refine awp_norm [2] rfl rfl ?_; refine awp_ret ?_
        simp only [kindR, isL, isD, isSp, h1, h2, h3, h4, h5, h6, Bool.or_true, Bool.and_false] at hG
        subst hG
        exact ⟨_, [], _, [.d (num _)], rfl, rfl, rfl, rfl, rfl, PWs.refl _, rfl⟩
      refine awp_skip ?_; refine awp_seq ?_; refine rgn fun pan K hp hK => ?_; refine hK _ ?_; clear hK hp K pan; refine awp_norm [2] rfl rfl ?_; refine awp_ret ?_
      simp only [kindR, isL, isD, isSp, h1, h2, h3, h4, h5, h6, Bool.and_false, Bool.or_self] at hG
      subst hG
      exact ⟨_, [], _, [.d (num _)], rfl, rfl, rfl, rfl, rfl, PWs.refl _, rfl⟩
    refine hK _ ?_; clear hK hp K pan; refine awp_norm [0, 14] rfl rfl ?_; refine awp_cond rfl ?_; refine awp_skip ?_; refine awp_seq ?_; refine awp_seq ?_; refine rgn fun pan K hp hK => ?_
    refine onB_intro (fun h4 => ?_) (fun h4 => ?_)
    · refine hK _ ?_; clear hK hp K pan; refine awp_norm [20] rfl rfl ?_; refine awp_cond rfl ?_; refine awp_seq ?_; refine rgn fun pan K hp hK => ?_; refine hK _ ?_; clear hK hp K pan; refine awp_norm [2] rfl rfl ?_; refine awp_ret ?_
      simp only [kindR, isL, isD, isSp, h1, h2, h3, h4, Bool.true_or, Bool.false_and, Bool.and_false] at hG
      subst hG
      exact ⟨_, [], _, [.d (num _)], rfl, rfl, rfl, rfl, rfl, PWs.refl _, rfl⟩
    refine hK _ ?_; clear hK hp K pan; refine awp_norm [20] rfl rfl ?_
    refine awp_cond2 rfl (onB_intro (fun h5 => ?_) (fun h5 => ?_))
    · refine awp_seq ?_; refine rgn fun pan K hp hK => ?_; refine hK _ ?_; clear hK hp K pan; refine awp_norm [2] rfl rfl ?_; refine awp_ret ?_
      simp only [kindR, isL, isD, isSp, h1, h2, h3, h4, h5, Bool.or_true, Bool.false_and, Bool.and_false] at hG
      subst hG
      exact ⟨_, [], _, [.d (num _)], rfl, rfl, rfl, rfl, rfl, PWs.refl _, rfl⟩
    refine awp_skip ?_; refine awp_seq ?_; refine rgn fun pan K hp hK => ?_; refine hK _ ?_; clear hK hp K pan; refine awp_norm [2] rfl rfl ?_; refine awp_ret ?_
    simp only [kindR, isL, isD, isSp, h1, h2, h3, h4, h5, Bool.false_and, Bool.and_false, Bool.or_self] at hG
    subst hG
    exact ⟨_, [], _, [.d (num _)], rfl, rfl, rfl, rfl, rfl, PWs.refl _, rfl⟩
  refine hK _ ?_; clear hK hp K pan; refine awp_norm [0, 8] rfl rfl ?_; refine awp_cond rfl ?_; refine awp_skip ?_; refine awp_seq ?_; refine awp_seq ?_; refine rgn fun pan K hp hK => ?_
  refine onB_intro (fun h2 => ?_) (fun h2 => ?_)
  · refine hK _ ?_; clear hK hp K pan; refine awp_norm [0, 14] rfl rfl ?_
    refine awp_cond2 rfl (onB_intro (fun h3 => ?_) (fun h3 => ?_))
    · refine awp_seq ?_; refine rgn fun pan K hp hK => ?_; refine hK _ ?_; clear hK hp K pan; refine awp_norm [2] rfl rfl ?_; refine awp_ret ?_
      simp only [kindR, isL, isD, h1, h2, h3, Bool.false_and, Bool.and_self] at hG
      subst hG
      exact ⟨_, [], _, [.d (num _)], rfl, rfl, rfl, rfl, rfl, PWs.refl _, rfl⟩
    refine awp_skip ?_; refine awp_seq ?_; refine awp_seq ?_; refine rgn fun pan K hp hK => ?_
    refine onB_intro (fun h4 => ?_) (fun h4 => ?_)
    · refine hK _ ?_; clear hK hp K pan; refine awp_norm [20] rfl rfl ?_; refine awp_cond rfl ?_; refine awp_seq ?_; refine rgn fun pan K hp hK => ?_; refine hK _ ?_; clear hK hp K pan; refine awp_norm [2] rfl rfl ?_; refine awp_ret ?_
      simp only [kindR, isL, isD, isSp, h1, h2, h3, h4, Bool.true_or, Bool.false_and, Bool.and_false] at hG
      subst hG
      exact ⟨_, [], _, [.d (num _)], rfl, rfl, rfl, rfl, rfl, PWs.refl _, rfl⟩
    refine hK _ ?_; clear hK hp K pan; refine awp_norm [20] rfl rfl ?_
    refine awp_cond2 rfl (onB_intro (fun h5 => ?_) (fun h5 => ?_))
    · refine awp_seq ?_; refine rgn fun pan K hp hK => ?_; refine hK _ ?_; clear hK hp K pan; refine awp_norm [2] rfl rfl ?_; refine awp_ret ?_
      simp only [kindR, isL, isD, isSp, h1, h2, h3, h4, h5, Bool.or_true, Bool.false_and, Bool.and_false] at hG
      subst hG
      exact ⟨_, [], _, [.d (num _)], rfl, rfl, rfl, rfl, rfl, PWs.refl _, rfl⟩
    refine awp_skip ?_; refine awp_seq ?_; refine rgn fun pan K hp hK => ?_; refine hK _ ?_; clear hK hp K pan; refine awp_norm [2] rfl rfl ?_; refine awp_ret ?_
    simp only [kindR, isL, isD, isSp, h1, h2, h3, h4, h5, Bool.false_and, Bool.and_false, Bool.or_self] at hG
    subst hG
    exact ⟨_, [], _, [.d (num _)], rfl, rfl, rfl, rfl, rfl, PWs.refl _, rfl⟩
  refine hK _ ?_; clear hK hp K pan; refine awp_norm [0, 14] rfl rfl ?_; refine awp_cond rfl ?_; refine awp_skip ?_; refine awp_seq ?_; refine awp_seq ?_; refine rgn fun pan K hp hK => ?_
  refine onB_intro (fun h3 => ?_) (fun h3 => ?_)
  · refine hK _ ?_; clear hK hp K pan; refine awp_norm [20] rfl rfl ?_; refine awp_cond rfl ?_; refine awp_seq ?_; refine rgn fun pan K hp hK => ?_; refine hK _ ?_; clear hK hp K pan; refine awp_norm [2] rfl rfl ?_; refine awp_ret ?_
    simp only [kindR, isL, isD, isSp, h1, h2, h3, Bool.true_or, Bool.false_and] at hG
    subst hG
    exact ⟨_, [], _, [.d (num _)], rfl, rfl, rfl, rfl, rfl, PWs.refl _, rfl⟩
  refine hK _ ?_; clear hK hp K pan; refine awp_norm [20] rfl rfl ?_
  refine awp_cond2 rfl (onB_intro (fun h4 => ?_) (fun h4 => ?_))
  · refine awp_seq ?_; refine rgn fun pan K hp hK => ?_; refine hK _ ?_; clear hK hp K pan; refine awp_norm [2] rfl rfl ?_; refine awp_ret ?_
    simp only [kindR, isL, isD, isSp, h1, h2, h3, h4, Bool.or_true, Bool.false_and] at hG
    subst hG
    exact ⟨_, [], _, [.d (num _)], rfl, rfl, rfl, rfl, rfl, PWs.refl _, rfl⟩
  refine awp_skip ?_; refine awp_seq ?_; refine rgn fun pan K hp hK => ?_; refine hK _ ?_; clear hK hp K pan; refine awp_norm [2] rfl rfl ?_; refine awp_ret ?_
  simp only [kindR, isL, isD, isSp, h1, h2, h3, h4, Bool.false_and, Bool.or_self] at hG
  subst hG
  exact ⟨_, [], _, [.d (num _)], rfl, rfl, rfl, rfl, rfl, PWs.refl _, rfl⟩
def okDg (s : ByteArray) : Bool := decide ((s.size : Int) > 0) && decide ((s.size : Int) ≤ 15) && (kindR (byteAt s 0) == 2) && (((s.size : Int) == 1) || (byteAt s 0 != 48))
def valR (s : ByteArray) : Nat → Nat → Int → Int
  | 0, _, n => n
  | f + 1, i, n => match decide ((i : Int) < (s.size : Int)) with
    | true => valR s f (i + 1) (IntKind.i64.wrap (IntKind.i64.wrap (n * 10) + IntKind.i64.wrap (IntKind.u8.wrap (byteAt s i - 48))))
    | false => n
def numW (W : List Wd) (X : RSt) : Int × RSt := match okDg (wrd W X) with
  | true => match decide (valR (wrd W X) (wrd W X).size 0 0 > 1099511627776) with
    | true => (0, failW W 1 X)
    | false => (valR (wrd W X) (wrd W X).size 0 0, passW W X)
  | false => (0, failW W 1 X)
theorem numW_k {W : List Wd} {X : RSt} (h : X.k < W.length) : (numW W X).2.k < W.length := by
  unfold numW
  cases okDg (wrd W X) with
  | true =>
    cases decide (valR (wrd W X) (wrd W X).size 0 0 > 1099511627776) with
    | true => simp only; rw [failW_k]; exact h
    | false => exact passW_k h
  | false => simp only; rw [failW_k]; exact h
section
variable {G : Glob} {W : List Wd}
theorem numR_yes (X : RSt) (hk : X.k < W.length) (hW : WOk W) (hsz : (wrd W X).size < 4611686018427387904) (hok : okDg (wrd W X) = true) (r : Int × RSt) (hG : (match decide (valR (wrd W X) (wrd W X).size 0 0 > 1099511627776) with | true => (0, failW W 1 X) | false => (valR (wrd W X) (wrd W X).size 0 0, passW W X)) = r) : Spec Tryz.prog G 61 [.box 0 0] [PB W X] (.ret (.d (num r.1))) [PB W r.2] := by
  refine spec_of_awp2 TT_ok (N := 61) Tryz.func61 rfl (by rfl) (Nat.le_refl _) rfl ?_
  refine awp_seq ?_; refine rgn fun pan K hp hK => ?_; refine hK _ ?_; clear hK hp K pan; refine awp_norm [0] rfl rfl ?_; refine awp_seq ?_; refine rgn fun pan K hp hK => ?_; show aCall _ _ _ _ _ _ _
  refine aCall_ret (L := [0]) rfl rfl rfl (wordR_spec X hk _ rfl) rfl rfl rfl rfl ?_
  refine hK _ ?_; clear hK hp K pan; refine awp_norm [0, 3] rfl rfl ?_
  generalize hw : wrd W X = w at hok hG hsz ⊢
  generalize hv : valR w w.size 0 0 = vR at hG
  refine awp_seq ?_; refine rgn fun pan K hp hK => ?_; refine hK _ ?_; clear hK hp K pan; refine awp_norm [0, 3, 4] rfl rfl ?_
  refine awp_cut (fun Z => Z = ⟨[(0, .box 0 0), (3, .d (str w)), (4, .d (num 0)), (5, .d (.s (.bool (okDg w))))], [PB W X]⟩) ?_ ?_
  · refine rgn fun pan K hp hK => ?_
    refine onB_intro (fun h1 => ?_) (fun h1 => ?_)
    · have h1' := of_decide_eq_true h1
      refine onB_intro (fun h2 => ?_) (fun h2 => ?_)
      · refine And.intro (by omega) (And.intro (by omega) ?_)
        show aCall _ _ _ _ _ _ _
        refine aCall_ret (L := []) rfl rfl rfl (kind_spec G _ _ rfl) rfl rfl rfl rfl ?_
        refine onB_intro (fun h3 => ?_) (fun h3 => ?_)
        · refine onB_intro (fun h4 => ?_) (fun h4 => ?_)
          · refine hK _ ?_; clear hK hp K pan
            exact ⟨_, sub_norm (slots := [0, 3, 4, 5]) rfl rfl, (by simp only [okDg, h1, h2, h3, h4, Bool.true_or, Bool.and_self]; rfl)⟩
          refine And.intro (by omega) (And.intro (by omega) ?_)
          refine hK _ ?_; clear hK hp K pan
          exact ⟨_, sub_norm (slots := [0, 3, 4, 5]) rfl rfl, (by simp only [okDg, h1, h2, h3, h4, Bool.false_or, Bool.true_and, Bool.and_self]; rfl)⟩
        refine hK _ ?_; clear hK hp K pan
        exact ⟨_, sub_norm (slots := [0, 3, 4, 5]) rfl rfl, (by simp only [okDg, h1, h2, h3, Bool.false_and, Bool.and_false, Bool.and_self]; rfl)⟩
      refine hK _ ?_; clear hK hp K pan
      exact ⟨_, sub_norm (slots := [0, 3, 4, 5]) rfl rfl, (by simp only [okDg, h1, h2, Bool.false_and, Bool.and_false]; rfl)⟩
    refine hK _ ?_; clear hK hp K pan
    exact ⟨_, sub_norm (slots := [0, 3, 4, 5]) rfl rfl, (by simp only [okDg, h1, Bool.false_and]; rfl)⟩
  rintro Z rfl
  rw [hok]
  refine awp_seq ?_; refine awp_seq ?_; refine rgn fun pan K hp hK => ?_; refine hK _ ?_; clear hK hp K pan; refine awp_norm [0, 3, 4, 5, 6] rfl rfl ?_; refine awp_block ?_
  refine awp_loop (fun k Y => ∃ (n : Int) (i : Nat), k = w.size - i ∧ i ≤ w.size ∧ valR w (w.size - i) i n = vR ∧ Y = ⟨[(0, .box 0 0), (3, .d (str w)), (4, .d (num n)), (5, .d (.s (.bool true))), (6, .d (num (i : Nat)))], [PB W X]⟩) (w.size) (⟨0, 0, by omega, by omega, hv, rfl⟩) ?_
  rintro k Y ⟨n, i, rfl, hi, hv, rfl⟩
  refine awp_seq ?_; refine awp_seq ?_; refine rgn fun pan K hp hK => ?_
  refine onB_intro (fun h1 => ?_) (fun h1 => ?_)
  · have h1' := of_decide_eq_true h1
    obtain ⟨f, hf⟩ : ∃ f, w.size - i = f + 1 := ⟨w.size - i - 1, by omega⟩
    rw [hf] at hv
    simp only [valR, h1] at hv
    rw [show f = w.size - (i + 1) from by omega] at hv
    refine hK _ ?_; clear hK hp K pan; refine awp_norm [0, 3, 4, 5, 6, 39] rfl rfl ?_
    refine awp_cond2 rfl (onB_intro (fun h2 => ?_) (fun h2 => ?_))
    · refine awp_skip ?_; refine awp_seq ?_; refine awp_block ?_; refine rgn fun pan K hp hK => ?_
      refine And.intro (by omega) (And.intro (by omega) ?_)
      refine hK _ ?_; clear hK hp K pan; refine awp_norm [0, 3, 4, 5, 6] rfl rfl ?_; refine rgn fun pan K hp hK => ?_; refine hK _ ?_; clear hK hp K pan
      exact ⟨w.size - (i + 1), by omega, _, sub_norm (slots := [0, 3, 4, 5, 6]) rfl rfl, _, i + 1, rfl, by omega, hv, by rw [wrapId (x := (i : Int) + 1) (by omega) (by omega)]; rfl⟩
    cases h2
  have h1' := of_decide_eq_false h1
  obtain rfl : i = w.size := by omega
  rw [Nat.sub_self] at hv
  simp only [valR] at hv
  subst hv
  refine hK _ ?_; clear hK hp K pan; refine awp_norm [0, 3, 4, 5, 6, 39] rfl rfl ?_; refine awp_cond rfl ?_
  refine awp_exit ?_
  refine awp_norm [0, 4, 5] rfl rfl ?_; refine awp_seq ?_; refine awp_seq ?_; refine rgn fun pan K hp hK => ?_; refine hK _ ?_; clear hK hp K pan; refine awp_norm [0, 4, 55] rfl rfl ?_
  refine awp_cond2 rfl (onB_intro (fun h2 => ?_) (fun h2 => ?_))
  · refine awp_seq ?_; refine rgn fun pan K hp hK => ?_; show aCall _ _ _ _ _ _ _
    refine aCall_ret (L := [0]) rfl rfl rfl (failR_spec X hk _ _ rfl) rfl rfl rfl rfl ?_
    refine hK _ ?_; clear hK hp K pan; refine awp_norm [] rfl rfl ?_; refine awp_seq ?_; refine rgn fun pan K hp hK => ?_; refine hK _ ?_; clear hK hp K pan; refine awp_norm [2] rfl rfl ?_; refine awp_ret ?_
    have hq : decide (n > 1099511627776) = true := h2
    simp only [hq] at hG
    subst hG
    exact ⟨_, [0], _, [.d (num _)], rfl, rfl, rfl, rfl, rfl, PWs.refl _, rfl⟩
  refine awp_skip ?_; refine awp_seq ?_; refine rgn fun pan K hp hK => ?_; show aCall _ _ _ _ _ _ _
  refine aCall_ret (L := [0]) rfl rfl rfl (passR_spec X hk hW _ rfl) rfl rfl rfl rfl ?_
  refine hK _ ?_; clear hK hp K pan; refine awp_norm [4] rfl rfl ?_; refine awp_seq ?_; refine rgn fun pan K hp hK => ?_; refine hK _ ?_; clear hK hp K pan; refine awp_norm [2] rfl rfl ?_; refine awp_ret ?_
  have hq : decide (n > 1099511627776) = false := h2
  simp only [hq] at hG
  subst hG
  exact ⟨_, [0], _, [.d (num _)], rfl, rfl, rfl, rfl, rfl, PWs.refl _, rfl⟩
theorem numR_no (X : RSt) (hk : X.k < W.length) (hW : WOk W) (hsz : (wrd W X).size < 4611686018427387904) (hok : okDg (wrd W X) = false) (r : Int × RSt) (hG : (0, failW W 1 X) = r) : Spec Tryz.prog G 61 [.box 0 0] [PB W X] (.ret (.d (num r.1))) [PB W r.2] := by
  refine spec_of_awp2 TT_ok (N := 61) Tryz.func61 rfl (by rfl) (Nat.le_refl _) rfl ?_
  refine awp_seq ?_; refine rgn fun pan K hp hK => ?_; refine hK _ ?_; clear hK hp K pan; refine awp_norm [0] rfl rfl ?_; refine awp_seq ?_; refine rgn fun pan K hp hK => ?_; show aCall _ _ _ _ _ _ _
  refine aCall_ret (L := [0]) rfl rfl rfl (wordR_spec X hk _ rfl) rfl rfl rfl rfl ?_
  refine hK _ ?_; clear hK hp K pan; refine awp_norm [0, 3] rfl rfl ?_
  generalize hw : wrd W X = w at hok hsz ⊢
  refine awp_seq ?_; refine rgn fun pan K hp hK => ?_; refine hK _ ?_; clear hK hp K pan; refine awp_norm [0, 3, 4] rfl rfl ?_
  refine awp_cut (fun Z => Z = ⟨[(0, .box 0 0), (3, .d (str w)), (4, .d (num 0)), (5, .d (.s (.bool (okDg w))))], [PB W X]⟩) ?_ ?_
  · refine rgn fun pan K hp hK => ?_
    refine onB_intro (fun h1 => ?_) (fun h1 => ?_)
    · have h1' := of_decide_eq_true h1
      refine onB_intro (fun h2 => ?_) (fun h2 => ?_)
      · refine And.intro (by omega) (And.intro (by omega) ?_)
        show aCall _ _ _ _ _ _ _
        refine aCall_ret (L := []) rfl rfl rfl (kind_spec G _ _ rfl) rfl rfl rfl rfl ?_
        refine onB_intro (fun h3 => ?_) (fun h3 => ?_)
        · refine onB_intro (fun h4 => ?_) (fun h4 => ?_)
          · refine hK _ ?_; clear hK hp K pan
            exact ⟨_, sub_norm (slots := [0, 3, 4, 5]) rfl rfl, (by simp only [okDg, h1, h2, h3, h4, Bool.true_or, Bool.and_self]; rfl)⟩
          refine And.intro (by omega) (And.intro (by omega) ?_)
          refine hK _ ?_; clear hK hp K pan
          exact ⟨_, sub_norm (slots := [0, 3, 4, 5]) rfl rfl, (by simp only [okDg, h1, h2, h3, h4, Bool.false_or, Bool.true_and, Bool.and_self]; rfl)⟩
        refine hK _ ?_; clear hK hp K pan
        exact ⟨_, sub_norm (slots := [0, 3, 4, 5]) rfl rfl, (by simp only [okDg, h1, h2, h3, Bool.false_and, Bool.and_false, Bool.and_self]; rfl)⟩
      refine hK _ ?_; clear hK hp K pan
      exact ⟨_, sub_norm (slots := [0, 3, 4, 5]) rfl rfl, (by simp only [okDg, h1, h2, Bool.false_and, Bool.and_false]; rfl)⟩
    refine hK _ ?_; clear hK hp K pan
    exact ⟨_, sub_norm (slots := [0, 3, 4, 5]) rfl rfl, (by simp only [okDg, h1, Bool.false_and]; rfl)⟩
  rintro Z rfl
  rw [hok]
  refine awp_seq ?_; refine awp_seq ?_; refine rgn fun pan K hp hK => ?_; refine hK _ ?_; clear hK hp K pan; refine awp_norm [0, 3, 4, 5, 6] rfl rfl ?_; refine awp_block ?_
  refine awp_loop (fun k Y => k = 0 ∧ Y = ⟨[(0, .box 0 0), (3, .d (str w)), (4, .d (num 0)), (5, .d (.s (.bool false))), (6, .d (num ((0 : Nat) : Int)))], [PB W X]⟩) (0) (⟨rfl, rfl⟩) ?_
  rintro k Y ⟨rfl, rfl⟩
  refine awp_seq ?_; refine awp_seq ?_; refine rgn fun pan K hp hK => ?_
  refine onB_intro (fun h1 => ?_) (fun h1 => ?_)
  · refine hK _ ?_; clear hK hp K pan; refine awp_norm [0, 3, 4, 5, 6, 39] rfl rfl ?_
    refine awp_cond2 rfl (onB_intro (fun h2 => ?_) (fun h2 => ?_))
    · cases h2
    refine awp_exit ?_
    refine awp_norm [0, 4, 5] rfl rfl ?_; refine awp_seq ?_; refine awp_seq ?_; refine rgn fun pan K hp hK => ?_; refine hK _ ?_; clear hK hp K pan; refine awp_norm [0, 4, 55] rfl rfl ?_; refine awp_cond rfl ?_; refine awp_seq ?_; refine rgn fun pan K hp hK => ?_; show aCall _ _ _ _ _ _ _
    refine aCall_ret (L := [0]) rfl rfl rfl (failR_spec X hk _ _ rfl) rfl rfl rfl rfl ?_
    refine hK _ ?_; clear hK hp K pan; refine awp_norm [] rfl rfl ?_; refine awp_seq ?_; refine rgn fun pan K hp hK => ?_; refine hK _ ?_; clear hK hp K pan; refine awp_norm [2] rfl rfl ?_; refine awp_ret ?_; subst hG
    exact ⟨_, [0], _, [.d (num _)], rfl, rfl, rfl, rfl, rfl, PWs.refl _, rfl⟩
  refine hK _ ?_; clear hK hp K pan; refine awp_norm [0, 3, 4, 5, 6, 39] rfl rfl ?_; refine awp_cond rfl ?_
  refine awp_exit ?_
  refine awp_norm [0, 4, 5] rfl rfl ?_; refine awp_seq ?_; refine awp_seq ?_; refine rgn fun pan K hp hK => ?_; refine hK _ ?_; clear hK hp K pan; refine awp_norm [0, 4, 55] rfl rfl ?_; refine awp_cond rfl ?_; refine awp_seq ?_; refine rgn fun pan K hp hK => ?_; show aCall _ _ _ _ _ _ _
  refine aCall_ret (L := [0]) rfl rfl rfl (failR_spec X hk _ _ rfl) rfl rfl rfl rfl ?_
  refine hK _ ?_; clear hK hp K pan; refine awp_norm [] rfl rfl ?_; refine awp_seq ?_; refine rgn fun pan K hp hK => ?_; refine hK _ ?_; clear hK hp K pan; refine awp_norm [2] rfl rfl ?_; refine awp_ret ?_; subst hG
  exact ⟨_, [0], _, [.d (num _)], rfl, rfl, rfl, rfl, rfl, PWs.refl _, rfl⟩
theorem numR_spec (X : RSt) (hk : X.k < W.length) (hW : WOk W) (r : Int × RSt) (hG : numW W X = r) : Spec Tryz.prog G 61 [.box 0 0] [PB W X] (.ret (.d (num r.1))) [PB W r.2] := by
  unfold numW at hG
  cases hok : okDg (wrd W X) with
  | true =>
    rw [hok] at hG
    exact numR_yes X hk hW (hW.wrd X) hok r hG
  | false =>
    rw [hok] at hG
    exact numR_no X hk hW (hW.wrd X) hok r hG
end
end Go.Abs
end
section
namespace Go.Abs
open Go Go.Proofs
attribute [local irreducible] aCall AWp Sub Spec
def sameR (s : ByteArray) (k : Int) : Nat → Nat → Nat → Nat
  | 0, _, n => n
  | f + 1, i, n => match decide (k < 3) with
    | false => n
    | true => match decide (((i + n : Nat) : Int) < (s.size : Int)) with
      | false => n
      | true => match kindR (byteAt s ((i + n : Nat) : Int)) == k with
        | true => sameR s k f i (n + 1)
        | false => n
def eqR (s : ByteArray) (i : Nat) : Bool := decide (((i + 1 : Nat) : Int) < (s.size : Int)) && (byteAt s ((i + 1 : Nat) : Int) == 61)
def twoR (s : ByteArray) (i : Nat) : Bool := eqR s i && ((((byteAt s i == 60) || (byteAt s i == 62)) || (byteAt s i == 61)) || (byteAt s i == 33))
def wlenR (s : ByteArray) (i : Nat) : Nat := match twoR s i with
  | true => 2
  | false => sameR s (kindR (byteAt s i)) s.size i 1
def wordsR (s : ByteArray) : Nat → Nat → List Wd → Option (List Wd)
  | 0, _, _ => none
  | f + 1, i, acc => match decide ((i : Int) < (s.size : Int)) with
    | false => some (acc ++ [(⟨#[]⟩, (s.size : Int))])
    | true => match kindR (byteAt s i) == 3 with
      | true => wordsR s f (i + 1) acc
      | false => wordsR s f (i + wlenR s i) (acc ++ [(s.extract i (i + wlenR s i), (i : Int))])
theorem sameR_le (s : ByteArray) (k : Int) : ∀ (f i n : Nat), i + n ≤ s.size → n ≤ sameR s k f i n ∧ i + sameR s k f i n ≤ s.size
  | 0, i, n, h => ⟨Nat.le_refl _, h⟩
  | f + 1, i, n, h => by
    unfold sameR
    cases decide (k < 3) with
    | false => exact ⟨Nat.le_refl _, h⟩
    | true =>
      cases hd : decide (((i + n : Nat) : Int) < (s.size : Int)) with
      | false => exact ⟨Nat.le_refl _, h⟩
      | true =>
        have hd' := of_decide_eq_true hd
        cases kindR (byteAt s ((i + n : Nat) : Int)) == k with
        | false => exact ⟨Nat.le_refl _, h⟩
        | true =>
          have := sameR_le s k f i (n + 1) (by omega)
          exact ⟨Nat.le_of_succ_le this.1, this.2⟩
theorem wlenR_le (s : ByteArray) (i : Nat) (h : i < s.size) : 1 ≤ wlenR s i ∧ i + wlenR s i ≤ s.size := by
  unfold wlenR
  cases ht : twoR s i with
  | true =>
    unfold twoR eqR at ht
    simp only [Bool.and_eq_true, decide_eq_true_eq] at ht
    exact ⟨by show 1 ≤ 2; decide, by show i + 2 ≤ s.size; omega⟩
  | false => exact sameR_le s _ s.size i 1 (by omega)
theorem wds_snoc (l : List Wd) (x : Wd) : wds l ++ [[str x.1, num x.2]] = wds (l ++ [x]) := by simp [wds]
theorem words_specR (G : Glob) (s : ByteArray) (hs : s.size ≤ 4000) (f0 : Nat) (Wf : List Wd) (hG : wordsR s f0 0 [] = some Wf) : Spec Tryz.prog G 57 [.d (str s)] [] (.ret (.d (.sl 2 (wds Wf)))) [] := by
  refine spec_of_awp2 TT_ok (N := 99) Tryz.func57 rfl (by rfl) (Nat.le_refl _) rfl ?_
  refine awp_seq ?_; refine rgn fun pan K hp hK => ?_; refine hK _ ?_; clear hK hp K pan; refine awp_norm [0] rfl rfl ?_; refine awp_seq ?_; refine rgn fun pan K hp hK => ?_; refine hK _ ?_; clear hK hp K pan; refine awp_norm [0, 3] rfl rfl ?_
  refine awp_acc 3 256 2 rfl rfl rfl ?_
  refine awp_norm [0, 3] rfl rfl ?_; refine awp_seq ?_; refine awp_seq ?_; refine rgn fun pan K hp hK => ?_; refine hK _ ?_; clear hK hp K pan; refine awp_norm [0, 3, 4] rfl rfl ?_; refine awp_block ?_
  refine awp_loop (fun k Y => ∃ (i : Nat) (acc : List Wd), i ≤ s.size ∧ acc.length ≤ i ∧ wordsR s k i acc = some Wf ∧ Y = ⟨[(0, .d (str s)), (3, .acc 0), (4, .d (num (i : Nat)))], [.acc 256 2 (wds acc)]⟩) (f0) (⟨0, [], Nat.zero_le _, Nat.le_refl _, hG, rfl⟩) ?_
  clear hG
  rintro f Y ⟨i, acc, hi, ha, hG, rfl⟩
  refine awp_seq ?_; refine awp_seq ?_; refine rgn fun pan K hp hK => ?_; refine hK _ ?_; clear hK hp K pan; refine awp_norm [0, 3, 4, 11] rfl rfl ?_
  refine awp_cond2 rfl (onB_intro (fun h1 => ?_) (fun h1 => ?_))
  · have h1' := of_decide_eq_true h1
    obtain ⟨f, rfl⟩ : ∃ f', f = f' + 1 := by
      cases f with
      | zero => simp [wordsR] at hG
      | succ f => exact ⟨f, rfl⟩
    simp only [wordsR, h1] at hG
    refine awp_skip ?_; refine awp_block ?_; refine awp_seq ?_; refine rgn fun pan K hp hK => ?_
    refine And.intro (by omega) (And.intro (by omega) ?_)
    show aCall _ _ _ _ _ _ _
    refine aCall_ret (L := []) rfl rfl rfl (kind_spec G _ _ rfl) rfl rfl rfl rfl ?_
    refine hK _ ?_; clear hK hp K pan; refine awp_norm [0, 3, 4, 5] rfl rfl ?_; refine awp_seq ?_; refine awp_seq ?_; refine rgn fun pan K hp hK => ?_; refine hK _ ?_; clear hK hp K pan; refine awp_norm [0, 3, 4, 5, 17] rfl rfl ?_
    refine awp_cond2 rfl (onB_intro (fun h2 => ?_) (fun h2 => ?_))
    · simp only [h2] at hG
      refine awp_seq ?_; refine rgn fun pan K hp hK => ?_; refine hK _ ?_; clear hK hp K pan; refine awp_norm [0, 3, 4] rfl rfl ?_
      refine awp_exit ?_
      exact ⟨f, Nat.lt_succ_self _, _, sub_norm (slots := [0, 3, 4]) rfl rfl, i + 1, acc, by omega, by omega, hG, by rw [wrapId (by omega) (by omega)]; rfl⟩
    simp only [h2] at hG
    refine awp_skip ?_; refine awp_seq ?_; refine rgn fun pan K hp hK => ?_; refine hK _ ?_; clear hK hp K pan; refine awp_norm [0, 3, 4, 5, 6] rfl rfl ?_
    obtain ⟨nR, hS0⟩ : ∃ nR, sameR s (kindR (byteAt s i)) s.size i 1 = nR := ⟨_, rfl⟩
    have hnl : i + nR ≤ s.size := by rw [← hS0]; exact (sameR_le s _ s.size i 1 (by omega)).2
    refine awp_cut (fun Z => Z = ⟨[(0, .d (str s)), (3, .acc 0), (4, .d (num (i : Nat))), (6, .d (num (nR : Nat)))], [.acc 256 2 (wds acc)]⟩) ?_ ?_
    · refine awp_block ?_
      refine awp_loop (fun m Y => ∃ n : Nat, 1 ≤ n ∧ i + n ≤ s.size ∧ s.size ≤ m + n ∧ sameR s (kindR (byteAt s i)) m i n = nR ∧ Y = ⟨[(0, .d (str s)), (3, .acc 0), (4, .d (num (i : Nat))), (5, .d (num (kindR (byteAt s i)))), (6, .d (num (n : Nat)))], [.acc 256 2 (wds acc)]⟩) (s.size) (⟨1, Nat.le_refl _, by omega, by omega, hS0, rfl⟩) ?_
      rintro m Y ⟨n, hn1, hn2, hm, hS, rfl⟩
      have hwr : IntKind.i64.wrap ((i : Int) + (n : Int)) = ((i + n : Nat) : Int) := by rw [wrapId (by omega) (by omega)]; omega
      refine awp_seq ?_; refine awp_seq ?_; refine rgn fun pan K hp hK => ?_
      refine onB_intro (fun h3 => ?_) (fun h3 => ?_)
      · refine onB_intro (fun h4 => ?_) (fun h4 => ?_)
        · rw [hwr] at h4
          have h4' := of_decide_eq_true h4
          refine And.intro (by rw [hwr]; omega) (And.intro (by rw [hwr]; omega) ?_)
          show aCall _ _ _ _ _ _ _
          refine aCall_ret (L := []) rfl rfl rfl (kind_spec G _ _ rfl) rfl rfl rfl rfl ?_
          refine hK _ ?_; clear hK hp K pan; refine awp_norm [0, 3, 4, 5, 6, 39] rfl rfl ?_
          refine awp_cond2 rfl (onB_intro (fun h5 => ?_) (fun h5 => ?_))
          · rw [hwr] at h5
            refine awp_skip ?_; refine awp_block ?_; refine rgn fun pan K hp hK => ?_; refine hK _ ?_; clear hK hp K pan
            obtain ⟨m', rfl⟩ : ∃ m', m = m' + 1 := ⟨m - 1, by omega⟩
            simp only [sameR, h3, h4, h5] at hS
            exact ⟨m', Nat.lt_succ_self _, _, sub_norm (slots := [0, 3, 4, 5, 6]) rfl rfl, n + 1, by omega, by omega, by omega, hS, by rw [wrapId (by omega) (by omega)]; rfl⟩
          rw [hwr] at h5
          have hnR : n = nR := by
            cases m with
            | zero => simpa [sameR] using hS
            | succ m => simpa only [sameR, h3, h4, h5] using hS
          refine awp_exit ?_
          exact ⟨_, sub_norm (slots := [0, 3, 4, 6]) rfl rfl, by rw [hnR]⟩
        rw [hwr] at h4
        have hnR : n = nR := by
          cases m with
          | zero => simpa [sameR] using hS
          | succ m => simpa only [sameR, h3, h4] using hS
        refine hK _ ?_; clear hK hp K pan; refine awp_norm [0, 3, 4, 5, 6, 39] rfl rfl ?_; refine awp_cond rfl ?_
        refine awp_exit ?_
        exact ⟨_, sub_norm (slots := [0, 3, 4, 6]) rfl rfl, by rw [hnR]⟩
      have hnR : n = nR := by
        cases m with
        | zero => simpa [sameR] using hS
        | succ m => simpa only [sameR, h3] using hS
      refine hK _ ?_; clear hK hp K pan; refine awp_norm [0, 3, 4, 5, 6, 39] rfl rfl ?_; refine awp_cond rfl ?_
      refine awp_exit ?_
      exact ⟨_, sub_norm (slots := [0, 3, 4, 6]) rfl rfl, by rw [hnR]⟩
    rintro Z rfl
    have hw1 : IntKind.i64.wrap ((i : Int) + 1) = ((i + 1 : Nat) : Int) := by rw [wrapId (by omega) (by omega)]; omega
    refine awp_cut (fun Z => Z = ⟨[(0, .d (str s)), (3, .acc 0), (4, .d (num (i : Nat))), (6, .d (num (nR : Nat))), (7, .d (.s (.bool (eqR s i))))], [.acc 256 2 (wds acc)]⟩) ?_ ?_
    · refine rgn fun pan K hp hK => ?_
      refine onB_intro (fun h3 => ?_) (fun h3 => ?_)
      · rw [hw1] at h3
        have h3' := of_decide_eq_true h3
        refine And.intro (by rw [hw1]; omega) (And.intro (by rw [hw1]; omega) ?_)
        refine hK _ ?_; clear hK hp K pan
        have e : eqR s i = (byteAt s ((i + 1 : Nat) : Int) == 61) := by unfold eqR; rw [h3]; rfl
        exact ⟨_, sub_norm (slots := [0, 3, 4, 6, 7]) rfl rfl, by rw [e, ← hw1]; try rfl⟩
      rw [hw1] at h3
      refine hK _ ?_; clear hK hp K pan
      have e : eqR s i = false := by unfold eqR; rw [h3]; rfl
      exact ⟨_, sub_norm (slots := [0, 3, 4, 6, 7]) rfl rfl, by rw [e]; try rfl⟩
    rintro Z rfl
    refine awp_cut (fun Z => Z = ⟨[(0, .d (str s)), (3, .acc 0), (4, .d (num (i : Nat))), (6, .d (num (wlenR s i : Nat)))], [.acc 256 2 (wds acc)]⟩) ?_ ?_
    · refine awp_seq ?_; refine rgn fun pan K hp hK => ?_
      refine onB_intro (fun h3 => ?_) (fun h3 => ?_)
      · refine And.intro ((by omega)) (And.intro ((by omega)) ?_)
        refine onB_intro (fun h4 => ?_) (fun h4 => ?_)
        · refine hK _ ?_; clear hK hp K pan; refine awp_norm [0, 3, 4, 6, 78] rfl rfl ?_; refine awp_cond rfl ?_; refine rgn fun pan K hp hK => ?_; refine hK _ ?_; clear hK hp K pan
          have e : wlenR s i = 2 := by simp only [wlenR, twoR, h3, h4, Bool.true_or, Bool.and_self]
          exact ⟨_, sub_norm (slots := [0, 3, 4, 6]) rfl rfl, by rw [e]; try rfl⟩
        refine And.intro ((by omega)) (And.intro ((by omega)) ?_)
        refine onB_intro (fun h5 => ?_) (fun h5 => ?_)
        · refine hK _ ?_; clear hK hp K pan; refine awp_norm [0, 3, 4, 6, 78] rfl rfl ?_; refine awp_cond rfl ?_; refine rgn fun pan K hp hK => ?_; refine hK _ ?_; clear hK hp K pan
          have e : wlenR s i = 2 := by simp only [wlenR, twoR, h3, h4, h5, Bool.true_or, Bool.or_true, Bool.and_self]
          exact ⟨_, sub_norm (slots := [0, 3, 4, 6]) rfl rfl, by rw [e]; try rfl⟩
        refine And.intro ((by omega)) (And.intro ((by omega)) ?_)
        refine onB_intro (fun h6 => ?_) (fun h6 => ?_)
        · refine hK _ ?_; clear hK hp K pan; refine awp_norm [0, 3, 4, 6, 78] rfl rfl ?_; refine awp_cond rfl ?_; refine rgn fun pan K hp hK => ?_; refine hK _ ?_; clear hK hp K pan
          have e : wlenR s i = 2 := by simp only [wlenR, twoR, h3, h4, h5, h6, Bool.true_or, Bool.or_true, Bool.or_self, Bool.and_self]
          exact ⟨_, sub_norm (slots := [0, 3, 4, 6]) rfl rfl, by rw [e]; try rfl⟩
        refine And.intro ((by omega)) (And.intro ((by omega)) ?_)
        refine hK _ ?_; clear hK hp K pan; refine awp_norm [0, 3, 4, 6, 78] rfl rfl ?_
        refine awp_cond2 rfl (onB_intro (fun h7 => ?_) (fun h7 => ?_))
        · refine rgn fun pan K hp hK => ?_; refine hK _ ?_; clear hK hp K pan
          have e : wlenR s i = 2 := by simp only [wlenR, twoR, h3, h4, h5, h6, h7, Bool.or_true, Bool.or_self, Bool.and_self]
          exact ⟨_, sub_norm (slots := [0, 3, 4, 6]) rfl rfl, by rw [e]; try rfl⟩
        refine awp_skip ?_
        have e : wlenR s i = nR := by simp only [wlenR, twoR, h3, h4, h5, h6, h7, Bool.and_false, Bool.or_self, hS0]
        exact ⟨_, sub_norm (slots := [0, 3, 4, 6]) rfl rfl, by rw [e]; try rfl⟩
      refine hK _ ?_; clear hK hp K pan; refine awp_norm [0, 3, 4, 6, 78] rfl rfl ?_; refine awp_cond rfl ?_; refine awp_skip ?_
      have e : wlenR s i = nR := by simp only [wlenR, twoR, h3, Bool.false_and, hS0]
      exact ⟨_, sub_norm (slots := [0, 3, 4, 6]) rfl rfl, by rw [e]; try rfl⟩
    rintro Z rfl
    obtain ⟨hl1, hl2⟩ := wlenR_le s i (by omega)
    have hwl : IntKind.i64.wrap ((i : Int) + ((wlenR s i : Nat) : Int)) = ((i + wlenR s i : Nat) : Int) := by rw [wrapId (by omega) (by omega)]; omega
    refine awp_seq ?_; refine rgn fun pan K hp hK => ?_
    refine And.intro (by omega) (And.intro (by rw [hwl]; omega) (And.intro (by rw [hwl]; omega) ?_))
    refine And.intro (And.intro ((by simp only [wds_len, chunk_length]; omega)) ((by simp only [wds_len, chunk_length, maxLen]; omega))) ?_
    refine hK _ ?_; clear hK hp K pan; refine awp_norm [0, 3, 4, 6] rfl rfl ?_; refine rgn fun pan K hp hK => ?_; refine hK _ ?_; clear hK hp K pan
    refine ⟨f, Nat.lt_succ_self _, _, sub_norm (slots := [0, 3, 4]) rfl rfl, i + wlenR s i, acc ++ [(s.extract i (i + wlenR s i), (i : Int))], by omega, by simp only [List.length_append, List.length_cons, List.length_nil]; omega, hG, ?_⟩
    rw [hwl, ← wds_snoc]
    rfl
  have h1' := of_decide_eq_false h1
  obtain ⟨f, rfl⟩ : ∃ f', f = f' + 1 := by
    cases f with
    | zero => simp [wordsR] at hG
    | succ f => exact ⟨f, rfl⟩
  simp only [wordsR, h1, Option.some.injEq] at hG
  subst hG
  refine awp_exit ?_
  refine awp_norm [0, 3] rfl rfl ?_; refine awp_seq ?_; refine rgn fun pan K hp hK => ?_
  refine And.intro (And.intro ((by simp only [wds_len, chunk_length]; omega)) ((by simp only [wds_len, chunk_length, maxLen]; omega))) ?_
  refine hK _ ?_; clear hK hp K pan; refine awp_norm [2] rfl rfl ?_; refine awp_ret ?_
  rw [← wds_snoc]
  exact ⟨_, [], _, [.d (.sl 2 (wds acc ++ [[str ⟨#[]⟩, num s.size]]))], rfl, rfl, rfl, rfl, rfl, PWs.refl _, rfl⟩
end Go.Abs
end
section
namespace Go.Abs
open Go Go.Proofs
def rst (s : ByteArray) (p : PS s) : Nat := s.size - p.i
def RG {s : ByteArray} {α : Type} (r : R s α) (Q : α → PS s → Prop) : Prop := match r with
  | .ok a q => Q a q
  | .bad _ _ => True
  | .out => False
theorem RG.bind {s : ByteArray} {α β : Type} {r : R s α} {f : α → PS s → R s β} {Q : α → PS s → Prop} {Q' : β → PS s → Prop} (h : RG r Q) (k : ∀ a q, Q a q → RG (f a q) Q') : RG (r.bind f) Q' := by
  cases r with
  | ok a q => exact k a q h
  | bad q c => trivial
  | out => exact h.elim
theorem spaceF_ge (s : ByteArray) : ∀ (f i : Nat), i ≤ spaceF s f i
  | 0, i => Nat.le_refl _
  | f + 1, i => by
    unfold spaceF
    split
    · split
      · exact Nat.le_of_succ_le (spaceF_ge s f (i + 1))
      exact Nat.le_refl _
    exact Nat.le_refl _
theorem rst_nx {s : ByteArray} (p : PS s) : rst s (nx s p) + p.w.size ≤ rst s p := by
  have h1 := spaceF_ge s (s.size - (p.i + p.w.size)) (p.i + p.w.size)
  have h2 := p.ok
  show s.size - spaceF s (s.size - (p.i + p.w.size)) (p.i + p.w.size) + p.w.size ≤ s.size - p.i
  omega
theorem eqW_size {w x : ByteArray} (h : eqW w x = true) : w.size = x.size := by rw [eqW_eq h]
theorem take_rg {s : ByteArray} (x : ByteArray) (p : PS s) : RG (takeF s x p) (fun _ q => rst s q + x.size ≤ rst s p) := by
  unfold takeF
  cases h : eqW p.w x with
  | false => trivial
  | true =>
    have h1 := eqW_size h
    have h2 := rst_nx p
    show rst s (nx s p) + x.size ≤ rst s p
    omega
theorem sz_pos {w : ByteArray} (h : (!(w.toList == (⟨#[]⟩ : ByteArray).toList)) = true) : 0 < w.size := by
  rcases Nat.eq_zero_or_pos w.size with q | q
  · have : w = ⟨#[]⟩ := ByteArray.ext (Array.eq_empty_of_size_eq_zero q)
    subst this
    simp at h
  exact q
theorem isNameF_size {w : ByteArray} (h : isNameF w = true) : 0 < w.size ∧ w.size ≤ 8 := by
  unfold isNameF at h
  split at h
  · simp only [Bool.and_eq_true, decide_eq_true_eq] at h
    exact ⟨sz_pos h.1.1, by omega⟩
  cases h
theorem isRelF_size {w : ByteArray} (h : isRelF w = true) : 0 < w.size ∧ w.size ≤ 2 := by
  unfold isRelF at h
  simp only [Bool.or_eq_true] at h
  have z1 : (⟨#[60]⟩ : ByteArray).size = 1 := rfl
  have z2 : (⟨#[60, 61]⟩ : ByteArray).size = 2 := rfl
  have z3 : (⟨#[61, 61]⟩ : ByteArray).size = 2 := rfl
  have z4 : (⟨#[33, 61]⟩ : ByteArray).size = 2 := rfl
  have z5 : (⟨#[62]⟩ : ByteArray).size = 1 := rfl
  have z6 : (⟨#[62, 61]⟩ : ByteArray).size = 2 := rfl
  rcases h with ((((h | h) | h) | h) | h) | h <;> (have := eqW_size (w := w) h; omega)
theorem name_rg {s : ByteArray} (p : PS s) : RG (nameF s p) (fun m q => rst s q + m.size ≤ rst s p ∧ 0 < m.size ∧ m.size ≤ 8 ∧ isNameF m = true) := by
  unfold nameF
  cases h : isNameF p.w with
  | false => trivial
  | true =>
    have h1 := isNameF_size h
    have h2 := rst_nx p
    exact ⟨h2, h1.1, h1.2, h⟩
theorem number_rg {s : ByteArray} (p : PS s) : RG (numberF s p) (fun n q => rst s q < rst s p ∧ chkN n = true) := by
  unfold numberF
  cases h : numV p.w with
  | none => trivial
  | some n =>
    have h2 := rst_nx p
    unfold numV at h
    split at h
    · rename_i v hv
      cases hb : numBad p.w v false with
      | true => rw [hb] at h; cases h
      | false =>
        rw [hb] at h
        simp only [Option.some.injEq] at h
        subst h
        unfold numBad at hb
        simp only [Bool.or_eq_false_iff, decide_eq_false_iff_not] at hb
        refine ⟨?_, ?_⟩
        · have : 0 < p.w.size := sz_pos (by
            have := hb.1.1.1.1
            unfold eqW at this
            rw [this]; first | done | rfl)
          show rst s (nx s p) < rst s p
          omega
        have := Lib.atoiAll_bounds hv
        unfold chkN
        rw [decide_eq_true this.1, decide_eq_true this.2]
        rfl
    cases h
theorem deep_rg {s : ByteArray} (d : Int) (p : PS s) : RG (deepF s d p) (fun _ q => q = p) := by
  unfold deepF
  cases decide (d ≥ 12) with
  | true => trivial
  | false => exact rfl
def GE {s : ByteArray} (p : PS s) (e : Ex) (q : PS s) : Prop := rst s q < rst s p ∧ fuE e + 1 + 2 * rst s q ≤ 2 * rst s p ∧ wtE e + 2 + 200 * rst s q ≤ 200 * rst s p ∧ nmE e = true
def ExG (s : ByteArray) (n : Nat) : Prop :=
  (∀ d p, 8 * rst s p + 1 ≤ n → RG (factorF s n d p) (GE p)) ∧ (∀ d p, 8 * rst s p + 2 ≤ n → RG (productF s n d p) (GE p)) ∧
  (∀ d e p p0, 8 * rst s p + 1 ≤ n → GE p0 e p → RG (prodL s n d e p) (GE p0)) ∧ (∀ d p, 8 * rst s p + 3 ≤ n → RG (termF s n d p) (GE p)) ∧
  (∀ d e p p0, 8 * rst s p + 1 ≤ n → GE p0 e p → RG (termL s n d e p) (GE p0))
theorem orB2 {a b : Bool} (h : (a || b) = true) : a = true ∨ b = true := by simpa using h
theorem chk0 : chkN 0 = true := by decide
theorem exG (s : ByteArray) : ∀ n, ExG s n
  | 0 => ⟨fun d p h => absurd h (by omega), fun d p h => absurd h (by omega), fun d e p p0 h => absurd h (by omega), fun d p h => absurd h (by omega), fun d e p p0 h => absurd h (by omega)⟩
  | n + 1 => by
    obtain ⟨hF, hP, hPL, hT, hTL⟩ := exG s n
    have z1 : (⟨#[45]⟩ : ByteArray).size = 1 := rfl
    have z2 : (⟨#[40]⟩ : ByteArray).size = 1 := rfl
    have z3 : (⟨#[41]⟩ : ByteArray).size = 1 := rfl
    have z4 : (⟨#[91]⟩ : ByteArray).size = 1 := rfl
    have z5 : (⟨#[93]⟩ : ByteArray).size = 1 := rfl
    have z6 : (⟨#[42]⟩ : ByteArray).size = 1 := rfl
    have z7 : (⟨#[47]⟩ : ByteArray).size = 1 := rfl
    have z8 : (⟨#[37]⟩ : ByteArray).size = 1 := rfl
    have z9 : (⟨#[43]⟩ : ByteArray).size = 1 := rfl
    have y1 : (⟨#[110, 101, 103]⟩ : ByteArray).size = 3 := rfl
    have y2 : (⟨#[110, 117, 109]⟩ : ByteArray).size = 3 := rfl
    have y3 : (⟨#[97, 116]⟩ : ByteArray).size = 2 := rfl
    have y4 : (⟨#[118, 97, 114]⟩ : ByteArray).size = 3 := rfl
    have y5 : (⟨#[]⟩ : ByteArray).size = 0 := rfl
    refine ⟨?_, ?_, ?_, ?_, ?_⟩
    · intro d p hn
      have hx := rst_nx p
      simp only [factorF]
      cases h1 : eqW p.w ⟨#[45]⟩ with
      | true =>
        have hs := eqW_size h1
        refine (deep_rg d p).bind fun d1 q hq => ?_
        subst hq
        refine (hF d1 (nx s q) (by omega)).bind fun e q2 hq => ?_
        obtain ⟨g1, g2, g3, g4⟩ := hq
        refine ⟨by omega, ?_, ?_, ?_⟩
        · simp only [fuE, fuL]; omega
        · simp only [wtE, wtL]; omega
        simp only [nmE, nmL, g4, chk0]; rfl
      | false =>
        cases h2 : eqW p.w ⟨#[40]⟩ with
        | true =>
          have hs := eqW_size h2
          refine (deep_rg d p).bind fun d1 q hq => ?_
          subst hq
          refine (hT d1 (nx s q) (by omega)).bind fun e q2 hq => ?_
          obtain ⟨g1, g2, g3, g4⟩ := hq
          refine (take_rg _ q2).bind fun _ q3 hq => ?_
          exact ⟨by omega, by omega, by omega, g4⟩
        | false =>
          cases h3 : (!eqW p.w ⟨#[]⟩ && isD (byteAt p.w 0)) with
          | true =>
            refine (number_rg p).bind fun k q hq => ?_
            refine ⟨by omega, ?_, ?_, ?_⟩
            · simp only [fuE, fuL]; omega
            · simp only [wtE, wtL]; omega
            simp only [nmE, nmL, hq.2]; rfl
          | false =>
            refine (name_rg p).bind fun m q hq => ?_
            obtain ⟨k1, k2, k3, _⟩ := hq
            cases h4 : eqW q.w ⟨#[91]⟩ with
            | true =>
              have hs := eqW_size h4
              have hy := rst_nx q
              simp only
              refine (deep_rg d q).bind fun d1 q1 hq => ?_
              subst hq
              refine (hT d1 (nx s q1) (by omega)).bind fun e q2 hq => ?_
              obtain ⟨g1, g2, g3, g4⟩ := hq
              refine (take_rg _ q2).bind fun _ q3 hq => ?_
              refine ⟨by omega, ?_, ?_, ?_⟩
              · simp only [fuE, fuL]; omega
              · simp only [wtE, wtL]; omega
              simp only [nmE, nmL, g4, chk0]; rfl
            | false =>
              refine ⟨by omega, ?_, ?_, ?_⟩
              · simp only [fuE, fuL]; omega
              · simp only [wtE, wtL]; omega
              simp only [nmE, nmL, chk0]; rfl
    · intro d p hn
      simp only [productF]
      refine (hF d p (by omega)).bind fun e q hq => ?_
      have h0 := hq.1
      exact hPL d e q p (by omega) hq
    · intro d e p p0 hn he
      have hx := rst_nx p
      simp only [prodL]
      cases h1 : (eqW p.w ⟨#[42]⟩ || eqW p.w ⟨#[47]⟩ || eqW p.w ⟨#[37]⟩) with
      | true =>
        have hs : p.w.size = 1 := by
          rcases orB2 h1 with h | h
          · rcases orB2 h with h | h
            · exact eqW_size h
            exact eqW_size h
          exact eqW_size h
        refine (hF d (nx s p) (by omega)).bind fun f q hq => ?_
        obtain ⟨g1, g2, g3, g4⟩ := hq
        obtain ⟨e1, e2, e3, e4⟩ := he
        refine hPL d _ q p0 (by omega) ⟨by omega, ?_, ?_, ?_⟩
        · simp only [fuE, fuL]; omega
        · simp only [wtE, wtL]; omega
        simp only [nmE, nmL, g4, e4, chk0]; rfl
      | false => exact he
    · intro d p hn
      simp only [termF]
      refine (hP d p (by omega)).bind fun e q hq => ?_
      have h0 := hq.1
      exact hTL d e q p (by omega) hq
    intro d e p p0 hn he
    have hx := rst_nx p
    simp only [termL]
    cases h1 : (eqW p.w ⟨#[43]⟩ || eqW p.w ⟨#[45]⟩) with
    | true =>
      have hs : p.w.size = 1 := by
        rcases orB2 h1 with h | h
        · exact eqW_size h
        exact eqW_size h
      refine (hP d (nx s p) (by omega)).bind fun f q hq => ?_
      obtain ⟨g1, g2, g3, g4⟩ := hq
      obtain ⟨e1, e2, e3, e4⟩ := he
      refine hTL d _ q p0 (by omega) ⟨by omega, ?_, ?_, ?_⟩
      · simp only [fuE, fuL]; omega
      · simp only [wtE, wtL]; omega
      simp only [nmE, nmL, g4, e4, chk0]; rfl
    | false => exact he
end Go.Abs
end
section
namespace Go.Abs
open Go Go.Proofs
theorem byteAt_ext (s : ByteArray) (j n : Nat) (h : j + n < s.size) : byteAt (s.extract j s.size) (n : Nat) = byteAt s ((j + n : Nat) : Int) := by
  unfold byteAt
  rw [Int.toNat_natCast, Int.toNat_natCast]
  have h1 : n < (s.extract j s.size).size := by simp only [ByteArray.size_extract]; omega
  rw [getElem?_pos (s.extract j s.size) n h1, getElem?_pos s (j + n) h]
  simp [ByteArray.getElem_extract]
theorem isL_isD {b : Int} (h : isL b = true) : isD b = false := by
  unfold isL at h
  unfold isD
  simp only [Bool.and_eq_true, decide_eq_true_eq] at h
  simp only [Bool.and_eq_false_iff, decide_eq_false_iff_not]
  omega
theorem isSp_no {b : Int} (h : isSp b = true) : isL b = false ∧ isD b = false := by
  unfold isSp at h
  simp only [Bool.or_eq_true, beq_iff_eq] at h
  unfold isL isD
  simp only [Bool.and_eq_false_iff, decide_eq_false_iff_not]
  omega
theorem kind3 (b : Int) : (kindR b == 3) = isSp b := by
  unfold kindR
  cases hs : isSp b with
  | true => rw [(isSp_no hs).1, (isSp_no hs).2]; rfl
  | false =>
    cases isL b with
    | true => rfl
    | false =>
      cases isD b with
      | true => rfl
      | false => rfl
theorem kind1 (b : Int) : (kindR b == 1) = isL b := by
  unfold kindR
  cases isL b with
  | true => rfl
  | false =>
    cases isD b with
    | true => rfl
    | false => cases isSp b <;> rfl
theorem kind2 (b : Int) : (kindR b == 2) = isD b := by
  unfold kindR
  cases hl : isL b with
  | true => rw [isL_isD hl]; rfl
  | false =>
    cases isD b with
    | true => rfl
    | false => cases isSp b <;> rfl
/-- How far a kind goes: the same. -/
theorem same_scan (s : ByteArray) (j : Nat) (P : Int → Bool) (k : Int) (hk : k < 3) (hP : ∀ b, (kindR b == k) = P b) : ∀ (f g n : Nat), j + n ≤ s.size → s.size ≤ j + n + f → s.size ≤ j + n + g → sameR s k f j n = scanF P (s.extract j s.size) g n
  | 0, g, n, h, hf, hg => by
    have e : j + n = s.size := by omega
    cases g with
    | zero => rfl
    | succ g =>
      simp only [sameR, scanF]
      rw [decide_eq_false (by simp only [ByteArray.size_extract]; omega)]
  | f + 1, 0, n, h, hf, hg => by
    have e : j + n = s.size := by omega
    simp only [sameR, scanF]
    rw [decide_eq_true hk, decide_eq_false (by omega)]
  | f + 1, g + 1, n, h, hf, hg => by
    simp only [sameR, scanF]
    rw [decide_eq_true hk]
    by_cases hlt : j + n < s.size
    · rw [decide_eq_true (by omega), decide_eq_true (by simp only [ByteArray.size_extract]; omega), byteAt_ext s j n hlt, hP]
      cases P (byteAt s ((j + n : Nat) : Int)) with
      | true => exact same_scan s j P k hk hP f g (n + 1) (by omega) (by omega) (by omega)
      | false => rfl
    rw [decide_eq_false (by omega), decide_eq_false (by simp only [ByteArray.size_extract]; omega)]
theorem wlen_eq (s : ByteArray) (j : Nat) (h : j < s.size) (hsp : isSp (byteAt s j) = false) : wlenR s j = wordLen (s.extract j s.size) := by
  have hsz : (s.extract j s.size).size = s.size - j := by simp only [ByteArray.size_extract]; omega
  have hne : (s.extract j s.size).toList.isEmpty = false := by
    cases he : (s.extract j s.size).toList.isEmpty with
    | false => rfl
    | true =>
      have := List.isEmpty_iff.1 he
      have h2 : (s.extract j s.size) = ⟨#[]⟩ := eqW_eq (by rw [this]; simp)
      rw [h2] at hsz
      have : (⟨#[]⟩ : ByteArray).size = 0 := rfl
      omega
  have hb0 : byteAt (s.extract j s.size) 0 = byteAt s j := by have := byteAt_ext s j 0 (by omega); simpa using this
  unfold wordLen
  rw [hne, hb0]
  have h3 : byteAt s j = byteAt s (j : Int) := rfl
  unfold wlenR
  cases hl : isL (byteAt s j) with
  | true =>
    have ht : twoR s j = false := by
      unfold isL at hl
      simp only [Bool.and_eq_true, decide_eq_true_eq] at hl
      unfold twoR
      simp only [Bool.and_eq_false_iff, Bool.or_eq_false_iff, beq_eq_false_iff_ne]
      omega
    have hk : kindR (byteAt s j) = 1 := by unfold kindR; rw [hl]
    rw [ht, hk]
    simp only
    have e1 : scanF isL (s.extract j s.size) (s.extract j s.size).size 0 = scanF isL (s.extract j s.size) ((s.extract j s.size).size - 1) 1 := by
      obtain ⟨m, hm⟩ : ∃ m, (s.extract j s.size).size = m + 1 := ⟨s.size - j - 1, by omega⟩
      rw [hm]
      simp only [scanF, Nat.add_sub_cancel]
      rw [decide_eq_true (by omega)]
      have : byteAt (s.extract j s.size) ((0 : Nat) : Int) = byteAt s j := hb0
      rw [this, hl]
    rw [e1]
    exact same_scan s j isL 1 (by decide) kind1 _ _ 1 (by omega) (by omega) (by omega)
  | false =>
    cases hd : isD (byteAt s j) with
    | true =>
      have ht : twoR s j = false := by
        unfold isD at hd
        simp only [Bool.and_eq_true, decide_eq_true_eq] at hd
        unfold twoR
        simp only [Bool.and_eq_false_iff, Bool.or_eq_false_iff, beq_eq_false_iff_ne]
        omega
      have hk : kindR (byteAt s j) = 2 := by unfold kindR; rw [hl, hd]
      rw [ht, hk]
      simp only
      have e1 : scanF isD (s.extract j s.size) (s.extract j s.size).size 0 = scanF isD (s.extract j s.size) ((s.extract j s.size).size - 1) 1 := by
        obtain ⟨m, hm⟩ : ∃ m, (s.extract j s.size).size = m + 1 := ⟨s.size - j - 1, by omega⟩
        rw [hm]
        simp only [scanF, Nat.add_sub_cancel]
        rw [decide_eq_true (by omega)]
        have : byteAt (s.extract j s.size) ((0 : Nat) : Int) = byteAt s j := hb0
        rw [this, hd]
      rw [e1]
      exact same_scan s j isD 2 (by decide) kind2 _ _ 1 (by omega) (by omega) (by omega)
    | false =>
      have hk : kindR (byteAt s j) = 4 := by unfold kindR; rw [hl, hd, hsp]
      have hs1 : sameR s (kindR (byteAt s j)) s.size j 1 = 1 := by
        rw [hk]
        cases s.size with
        | zero => rfl
        | succ n => rfl
      rw [hs1]
      simp only [opLen, hb0]
      have e : twoR s j = (decide (((s.extract j s.size).size : Int) > 1) && (byteAt (s.extract j s.size) 1 == 61) && isO (byteAt s j)) := by
        unfold twoR eqR isO
        by_cases h1 : j + 1 < s.size
        · have := byteAt_ext s j 1 h1
          rw [show ((1 : Nat) : Int) = 1 from rfl] at this
          rw [decide_eq_true (by omega), decide_eq_true (by omega), this]
        rw [decide_eq_false (by omega), decide_eq_false (by omega)]
        rfl
      rw [← e]
      cases twoR s j <;> rfl
def allDg (l : List UInt8) : Prop := ∀ c, c ∈ l → 48 ≤ c.toNat ∧ c.toNat ≤ 57
theorem byteAt_list (w : ByteArray) (i : Nat) (h : i < w.size) : byteAt w (i : Nat) = ((w.data.toList[i]'(by simpa using h)).toNat : Int) := by
  unfold byteAt
  rw [Int.toNat_natCast, getElem?_pos w i h]
  simp [ByteArray.getElem_eq_getElem_data]
theorem byteAt_ext0 (r : ByteArray) (m n : Nat) (h : n < m) (hm : n < r.size) : byteAt (r.extract 0 m) (n : Nat) = byteAt r (n : Nat) := by
  unfold byteAt
  rw [Int.toNat_natCast]
  have h1 : n < (r.extract 0 m).size := by simp only [ByteArray.size_extract]; omega
  rw [getElem?_pos (r.extract 0 m) n h1, getElem?_pos r n hm]
  simp [ByteArray.getElem_extract]
theorem scan_all (P : Int → Bool) (r : ByteArray) : ∀ (f n m : Nat), n ≤ m → m < scanF P r f n → P (byteAt r (m : Nat)) = true
  | 0, n, m, h1, h2 => by simp only [scanF] at h2; omega
  | f + 1, n, m, h1, h2 => by
    simp only [scanF] at h2
    split at h2
    · split at h2
      · rename_i hp
        rcases Nat.eq_or_lt_of_le h1 with e | e
        · subst e; exact hp
        exact scan_all P r f (n + 1) m e h2
      omega
    omega
/-- A word that begins with a digit is of digits. -/
theorem nx_dg {s : ByteArray} (p : PS s) : isD (byteAt (nx s p).w 0) = true → allDg (nx s p).w.data.toList := by
  show isD (byteAt ((s.extract (spaceF s (s.size - (p.i + p.w.size)) (p.i + p.w.size)) s.size).extract 0 (wordLen (s.extract (spaceF s (s.size - (p.i + p.w.size)) (p.i + p.w.size)) s.size))) 0) = true → allDg ((s.extract (spaceF s (s.size - (p.i + p.w.size)) (p.i + p.w.size)) s.size).extract 0 (wordLen (s.extract (spaceF s (s.size - (p.i + p.w.size)) (p.i + p.w.size)) s.size))).data.toList
  generalize s.extract (spaceF s (s.size - (p.i + p.w.size)) (p.i + p.w.size)) s.size = r
  intro h c hc
  obtain ⟨m, hm, rfl⟩ := List.getElem_of_mem hc
  have hms : m < (r.extract 0 (wordLen r)).size := by simpa using hm
  have hms2 := hms
  rw [ByteArray.size_extract] at hms2
  have hw0 : 0 < (r.extract 0 (wordLen r)).size := by omega
  have hb := byteAt_list _ m hms
  have hle : m < wordLen r ∧ m < r.size := by omega
  have e0 : byteAt (r.extract 0 (wordLen r)) 0 = byteAt r 0 := byteAt_ext0 r (wordLen r) 0 (by omega) (by omega)
  rw [e0] at h
  have hl : isL (byteAt r 0) = false := by
    cases hl : isL (byteAt r 0) with
    | false => rfl
    | true => rw [isL_isD hl] at h; cases h
  have hne : r.toList.isEmpty = false := by
    cases he : r.toList.isEmpty with
    | false => rfl
    | true =>
      have h1 := List.isEmpty_iff.1 he
      have h2 : r = ⟨#[]⟩ := eqW_eq (by rw [h1]; simp)
      subst h2
      have : (⟨#[]⟩ : ByteArray).size = 0 := rfl
      omega
  have hwl : wordLen r = scanF isD r r.size 0 := by
    unfold wordLen
    rw [hne, hl, h]
  have hd := scan_all isD r r.size 0 m (Nat.zero_le _) (by rw [← hwl]; exact hle.1)
  rw [← byteAt_ext0 r (wordLen r) m hle.1 hle.2, hb] at hd
  unfold isD at hd
  simp only [Bool.and_eq_true, decide_eq_true_eq] at hd
  omega
/-- The words from a place on. -/
def Ch (s : ByteArray) : Nat → List Wd → Prop
  | _, [] => False
  | i, x :: r => match r with
    | [] => spaceF s (s.size - i) i = s.size ∧ x = (⟨#[]⟩, (s.size : Int))
    | _ :: _ => spaceF s (s.size - i) i < s.size ∧ x = (s.extract (spaceF s (s.size - i) i) (spaceF s (s.size - i) i + wlenR s (spaceF s (s.size - i) i)), (spaceF s (s.size - i) i : Int)) ∧ Ch s (spaceF s (s.size - i) i + wlenR s (spaceF s (s.size - i) i)) r
theorem Ch_cons {s : ByteArray} {i : Nat} {x : Wd} {r : List Wd} (hr : r ≠ []) : Ch s i (x :: r) ↔ spaceF s (s.size - i) i < s.size ∧ x = (s.extract (spaceF s (s.size - i) i) (spaceF s (s.size - i) i + wlenR s (spaceF s (s.size - i) i)), (spaceF s (s.size - i) i : Int)) ∧ Ch s (spaceF s (s.size - i) i + wlenR s (spaceF s (s.size - i) i)) r := by
  cases r with
  | nil => exact absurd rfl hr
  | cons y r => simp only [Ch]
theorem words_chain (s : ByteArray) : ∀ (f i : Nat) (acc W : List Wd), wordsR s f i acc = some W → i ≤ s.size → ∃ rest, rest ≠ [] ∧ W = acc ++ rest ∧ Ch s i rest
  | 0, i, acc, W, h, _ => by simp [wordsR] at h
  | f + 1, i, acc, W, h, hi => by
    simp only [wordsR] at h
    by_cases hlt : i < s.size
    · rw [decide_eq_true (by omega)] at h
      simp only [kind3] at h
      obtain ⟨m, hm⟩ : ∃ m, s.size - i = m + 1 := ⟨s.size - i - 1, by omega⟩
      cases hs : isSp (byteAt s i) with
      | true =>
        rw [hs] at h
        obtain ⟨rest, r0, r1, r2⟩ := words_chain s f (i + 1) acc W h (by omega)
        refine ⟨rest, r0, r1, ?_⟩
        have e : spaceF s (s.size - i) i = spaceF s (s.size - (i + 1)) (i + 1) := by
          rw [hm, show s.size - (i + 1) = m by omega]
          simp only [spaceF]
          rw [decide_eq_true (by omega), hs]
        cases rest with
        | nil => exact absurd rfl r0
        | cons x r =>
          cases r with
          | nil => simp only [Ch] at r2 ⊢; rw [e]; exact r2
          | cons y r => simp only [Ch] at r2 ⊢; rw [e]; exact r2
      | false =>
        rw [hs] at h
        have hw := wlenR_le s i hlt
        obtain ⟨rest, r0, r1, r2⟩ := words_chain s f _ _ W h hw.2
        have e : spaceF s (s.size - i) i = i := by
          rw [hm]
          simp only [spaceF]
          rw [decide_eq_true (by omega), hs]
        refine ⟨(s.extract i (i + wlenR s i), (i : Int)) :: rest, by simp, by rw [r1]; simp, ?_⟩
        rw [Ch_cons r0, e]
        exact ⟨hlt, rfl, r2⟩
    rw [decide_eq_false (by omega)] at h
    simp only [Option.some.injEq] at h
    subst h
    have e : i = s.size := by omega
    subst e
    refine ⟨[(⟨#[]⟩, (s.size : Int))], by simp, rfl, ?_⟩
    simp only [Ch, Nat.sub_self, spaceF]
    exact ⟨trivial, trivial⟩
/-- The reader stands at word k. -/
structure At (s : ByteArray) (W : List Wd) (k : Nat) (p : PS s) : Prop where
  lt : k < W.length
  word : wat W k = (p.w, (p.i : Int))
  dg : isD (byteAt p.w 0) = true → allDg p.w.data.toList
  rest : (W.drop (k + 1) = [] ∧ p.w = ⟨#[]⟩ ∧ p.i = s.size) ∨ Ch s (p.i + p.w.size) (W.drop (k + 1))
def nk (W : List Wd) (k : Nat) : Nat := match decide ((k : Int) + 1 < (W.length : Int)) with
  | true => k + 1
  | false => k
theorem space_stop (s : ByteArray) : ∀ (f i : Nat), s.size ≤ i + f → spaceF s f i < s.size → isSp (byteAt s (spaceF s f i)) = false
  | 0, i, h, hl => by simp only [spaceF] at hl; omega
  | f + 1, i, h, hl => by
    simp only [spaceF] at hl ⊢
    by_cases hlt : i < s.size
    · rw [decide_eq_true (by omega)] at hl ⊢
      cases hs : isSp (byteAt s i) with
      | true =>
        rw [hs] at hl
        exact space_stop s f (i + 1) (by omega) hl
      | false => exact hs
    rw [decide_eq_false (by omega)] at hl
    simp only at hl
    omega
theorem ch_at {s : ByteArray} {W : List Wd} {k : Nat} {p : PS s} (hk : k < W.length) (h : Ch s (p.i + p.w.size) (W.drop k)) : At s W k (nx s p) := by
  have hd : W.drop k = W[k] :: W.drop (k + 1) := List.drop_eq_getElem_cons hk
  have hwat : wat W k = W[k] := by simp [wat, List.getD_eq_getElem?_getD, List.getElem?_eq_getElem hk]
  rw [hd] at h
  have hok := p.ok
  cases hr : W.drop (k + 1) with
  | nil =>
    rw [hr] at h
    simp only [Ch] at h
    obtain ⟨h1, h2⟩ := h
    have hi : (nx s p).i = s.size := h1
    have hw : (nx s p).w = ⟨#[]⟩ := by
      show (s.extract (spaceF s (s.size - (p.i + p.w.size)) (p.i + p.w.size)) s.size).extract 0 _ = _
      rw [h1]
      apply ByteArray.ext
      apply Array.eq_empty_of_size_eq_zero
      show ((s.extract s.size s.size).extract 0 _).size = 0
      simp only [ByteArray.size_extract]
      omega
    refine ⟨hk, by rw [hwat, h2, hw, hi], nx_dg p, .inl ⟨hr, hw, hi⟩⟩
  | cons y r =>
    rw [hr] at h
    obtain ⟨h1, h2, h3⟩ := (Ch_cons (by simp)).1 h
    have hsp := space_stop s (s.size - (p.i + p.w.size)) (p.i + p.w.size) (by omega) h1
    have hwl := wlenR_le s _ h1
    have hw : (nx s p).w = s.extract (spaceF s (s.size - (p.i + p.w.size)) (p.i + p.w.size)) (spaceF s (s.size - (p.i + p.w.size)) (p.i + p.w.size) + wlenR s (spaceF s (s.size - (p.i + p.w.size)) (p.i + p.w.size))) := by
      show (s.extract (spaceF s (s.size - (p.i + p.w.size)) (p.i + p.w.size)) s.size).extract 0 (wordLen _) = _
      rw [← wlen_eq s _ h1 hsp, ByteArray.extract_extract, Nat.add_zero, Nat.min_eq_left hwl.2]
    have hws : (nx s p).w.size = wlenR s (spaceF s (s.size - (p.i + p.w.size)) (p.i + p.w.size)) := by
      rw [hw, ByteArray.size_extract]
      omega
    refine ⟨hk, by rw [hwat, h2, hw]; rfl, nx_dg p, .inr ?_⟩
    rw [hr, hws]
    exact h3
theorem at_next {s : ByteArray} {W : List Wd} {k : Nat} {p : PS s} (h : At s W k p) : At s W (nk W k) (nx s p) := by
  have hlt := h.lt
  rcases h.rest with ⟨h1, h2, h3⟩ | h1
  · have hl : W.length ≤ k + 1 := List.drop_eq_nil_iff.1 h1
    have hn : nk W k = k := by unfold nk; rw [decide_eq_false (by omega)]
    rw [hn]
    have hz : p.w.size = 0 := by rw [h2]; rfl
    have e0 : s.size - (p.i + p.w.size) = 0 := by omega
    have hi : (nx s p).i = s.size := by
      show spaceF s (s.size - (p.i + p.w.size)) (p.i + p.w.size) = s.size
      rw [e0]
      simp only [spaceF]
      omega
    have hw : (nx s p).w = ⟨#[]⟩ := by
      have hii : spaceF s (s.size - (p.i + p.w.size)) (p.i + p.w.size) = s.size := hi
      show (s.extract (spaceF s (s.size - (p.i + p.w.size)) (p.i + p.w.size)) s.size).extract 0 _ = _
      rw [hii]
      apply ByteArray.ext
      apply Array.eq_empty_of_size_eq_zero
      show ((s.extract s.size s.size).extract 0 _).size = 0
      simp only [ByteArray.size_extract]
      omega
    refine ⟨hlt, ?_, nx_dg p, .inl ⟨h1, hw, hi⟩⟩
    rw [h.word, h2, h3, hw, hi]
  have hl : k + 1 < W.length := by
    rcases Nat.lt_or_ge (k + 1) W.length with q | q
    · exact q
    rw [List.drop_eq_nil_iff.2 q] at h1
    simp only [Ch] at h1
  have hn : nk W k = k + 1 := by unfold nk; rw [decide_eq_true (by omega)]
  rw [hn]
  exact ch_at hl h1
theorem at_start {s : ByteArray} {W : List Wd} {f : Nat} (h : wordsR s f 0 [] = some W) : At s W 0 (nx s (p0 s)) := by
  obtain ⟨rest, r0, r1, r2⟩ := words_chain s f 0 [] W h (Nat.zero_le _)
  rw [List.nil_append] at r1
  subst r1
  refine ch_at (List.length_pos_iff.2 r0) ?_
  rw [List.drop_zero]
  exact r2
theorem wordsR_ok (s : ByteArray) : ∀ (f i : Nat) (acc : List Wd), i ≤ s.size → s.size < i + f → ∃ W, wordsR s f i acc = some W ∧ W.length ≤ acc.length + (s.size - i) + 1 ∧ (∀ x, x ∈ W → x ∈ acc ∨ x.1.size ≤ s.size)
  | 0, i, acc, h, hf => absurd hf (by omega)
  | f + 1, i, acc, h, hf => by
    simp only [wordsR]
    by_cases hlt : i < s.size
    · rw [decide_eq_true (by omega)]
      simp only
      have hw := wlenR_le s i hlt
      cases kindR (byteAt s i) == 3 with
      | true =>
        obtain ⟨W, h1, h2, h3⟩ := wordsR_ok s f (i + 1) acc (by omega) (by omega)
        exact ⟨W, h1, by omega, h3⟩
      | false =>
        obtain ⟨W, h1, h2, h3⟩ := wordsR_ok s f (i + wlenR s i) (acc ++ [(s.extract i (i + wlenR s i), (i : Int))]) hw.2 (by omega)
        refine ⟨W, h1, by simp only [List.length_append, List.length_cons, List.length_nil] at h2; omega, fun x hx => ?_⟩
        rcases h3 x hx with q | q
        · rcases List.mem_append.1 q with q | q
          · exact .inl q
          rw [List.mem_singleton.1 q]
          exact .inr (by simp only [ByteArray.size_extract]; omega)
        exact .inr q
    rw [decide_eq_false (by omega)]
    refine ⟨_, rfl, by simp only [List.length_append, List.length_cons, List.length_nil]; omega, fun x hx => ?_⟩
    rcases List.mem_append.1 hx with q | q
    · exact .inl q
    rw [List.mem_singleton.1 q]
    exact .inr (by show (⟨#[]⟩ : ByteArray).size ≤ _; exact Nat.zero_le _)
end Go.Abs
end
section
namespace Go.Abs
open Go Go.Proofs
def dval (a : Nat) (l : List UInt8) : Nat := l.foldl (fun a c => a * 10 + (c.toNat - 48)) a
theorem dval_cons (a : Nat) (c : UInt8) (l : List UInt8) : dval a (c :: l) = dval (a * 10 + (c.toNat - 48)) l := by unfold dval; rw [List.foldl_cons]
theorem dval_ge (l : List UInt8) : ∀ a : Nat, a * 10 ^ l.length ≤ dval a l := by
  induction l with
  | nil => intro a; rw [List.length_nil, Nat.pow_zero, Nat.mul_one]; exact Nat.le_refl _
  | cons c l ih =>
    intro a
    have h := ih (a * 10 + (c.toNat - 48))
    rw [dval_cons, List.length_cons, Nat.pow_succ]
    revert h
    generalize dval (a * 10 + (c.toNat - 48)) l = D
    generalize 10 ^ l.length = k
    intro h
    have h2 : (a * 10) * k ≤ (a * 10 + (c.toNat - 48)) * k := Nat.mul_le_mul_right k (Nat.le_add_right _ _)
    have e : a * (k * 10) = (a * 10) * k := by rw [Nat.mul_comm k 10, Nat.mul_assoc]
    rw [e]
    exact Nat.le_trans h2 h
theorem dval_mono (l : List UInt8) (a : Nat) : a ≤ dval a l := Nat.le_trans (Nat.le_mul_of_pos_right a (Nat.pow_pos (by decide))) (dval_ge l a)
theorem parse_ok : ∀ (l : List UInt8) (a v : Nat), allDg l → Lib.parseUint10 a l = .ok v → v = dval a l
  | [], a, v, _, h => by simp only [Lib.parseUint10] at h; injection h with h; rw [← h]; rfl
  | c :: l, a, v, hd, h => by
    have h1 := hd c List.mem_cons_self
    simp only [Lib.parseUint10] at h
    rw [if_pos h1] at h
    split at h
    · cases h
    split at h
    · cases h
    exact parse_ok l _ v (fun x hx => hd x (List.mem_cons_of_mem _ hx)) h
theorem parse_small : ∀ (l : List UInt8) (a : Nat), allDg l → dval a l < 1844674407370955162 → Lib.parseUint10 a l = .ok (dval a l)
  | [], a, _, h => rfl
  | c :: l, a, hd, h => by
    have h1 := hd c List.mem_cons_self
    have h2 := dval_mono l (a * 10 + (c.toNat - 48))
    rw [dval_cons] at h
    simp only [Lib.parseUint10]
    rw [if_pos h1, if_neg (by omega), if_neg (by omega), dval_cons]
    exact parse_small l _ (fun x hx => hd x (List.mem_cons_of_mem _ hx)) h
theorem atoi_digits {l : List UInt8} (hl : l ≠ []) (hd : allDg l) : (∃ v : Int, Lib.atoiAll l = .ok v ∧ v = dval 0 l) ∨ (Lib.atoiAll l = .range ∧ 1099511627776 < dval 0 l) := by
  cases l with
  | nil => exact absurd rfl hl
  | cons c r =>
    have h1 := hd c List.mem_cons_self
    have e : Lib.atoiAll (c :: r) = Lib.signless (Lib.parseMag (c :: r)) := Lib.atoiAll_plain c r (by omega) (by omega)
    have e2 : Lib.parseMag (c :: r) = Lib.parseUint10 0 (c :: r) := by unfold Lib.parseMag; rw [if_neg (by simp)]
    rw [e, e2]
    by_cases hs : dval 0 (c :: r) < 1844674407370955162
    · rw [parse_small _ _ hd hs]
      exact .inl ⟨_, by simp only [Lib.signless]; rw [if_neg (by omega)], rfl⟩
    cases hp : Lib.parseUint10 0 (c :: r) with
    | ok v =>
      have hv := parse_ok _ _ _ hd hp
      simp only [Lib.signless]
      split
      · exact .inr ⟨rfl, by omega⟩
      exact .inl ⟨_, rfl, by rw [hv]⟩
    | range => exact .inr ⟨rfl, by omega⟩
    | _ =>
      exfalso
      have nos : ∀ (l : List UInt8) (a : Nat), allDg l → Lib.parseUint10 a l ≠ Lib.parseMag [] := by
        intro l
        induction l with
        | nil => intro a _ h; simp [Lib.parseUint10, Lib.parseMag] at h
        | cons c l ih =>
          intro a hd h
          simp only [Lib.parseUint10] at h
          rw [if_pos (hd c List.mem_cons_self)] at h
          split at h
          · cases h
          split at h
          · cases h
          exact ih _ (fun x hx => hd x (List.mem_cons_of_mem _ hx)) h
      exact nos _ _ hd hp
theorem valR_eq (w : ByteArray) (hd : allDg w.data.toList) (h15 : w.size ≤ 15) : ∀ (f i n : Nat), i + f = w.size → n < 10 ^ i → valR w f i (n : Int) = (dval n (w.data.toList.drop i) : Int)
  | 0, i, n, hf, hn => by
    have : w.data.toList.drop i = [] := List.drop_eq_nil_iff.2 (by simp only [Array.length_toList]; show w.size ≤ i; omega)
    rw [this]
    rfl
  | f + 1, i, n, hf, hn => by
    have hi : i < w.size := by omega
    have hl : i < w.data.toList.length := by simpa using hi
    have hb := byteAt_list w i hi
    have hc := hd (w.data.toList[i]) (List.getElem_mem hl)
    have hp : (10 : Nat) ^ i ≤ 10 ^ 14 := Nat.pow_le_pow_right (by decide) (by omega)
    have hp2 : (10 : Nat) ^ 14 = 100000000000000 := by decide
    simp only [valR]
    rw [decide_eq_true (by omega), hb, List.drop_eq_getElem_cons hl, dval_cons]
    have e1 : IntKind.i64.wrap ((n : Int) * 10) = (n : Int) * 10 := i64_id (by omega) (by omega)
    have e2 : IntKind.u8.wrap (((w.data.toList[i]).toNat : Int) - 48) = (((w.data.toList[i]).toNat - 48 : Nat) : Int) := by
      have : IntKind.u8.wrap (((w.data.toList[i]).toNat : Int) - 48) = (((w.data.toList[i]).toNat : Int) - 48) % 256 := by rfl
      rw [this]
      omega
    rw [e1, e2, i64_id (x := (((w.data.toList[i]).toNat - 48 : Nat) : Int)) (by omega) (by omega), i64_id (by omega) (by omega)]
    have e3 : (n : Int) * 10 + (((w.data.toList[i]).toNat - 48 : Nat) : Int) = ((n * 10 + ((w.data.toList[i]).toNat - 48) : Nat) : Int) := by omega
    rw [e3]
    exact valR_eq w hd h15 f (i + 1) _ (by omega) (by rw [Nat.pow_succ]; omega)
/-- What the reference takes for a number. -/
def numQ (w : ByteArray) : Option Int := match okDg w with
  | true => match decide (valR w w.size 0 0 > 1099511627776) with
    | true => none
    | false => some (valR w w.size 0 0)
  | false => none
theorem num_same (w : ByteArray) (hd : isD (byteAt w 0) = true → allDg w.data.toList) : numV w = numQ w := by
  cases h0 : (!eqW w ⟨#[]⟩ && isD (byteAt w 0)) with
  | false =>
    have hb : ∀ v, numBad w v false = true := by
      intro v
      unfold numBad
      have : (eqW w ⟨#[]⟩ || !isD (byteAt w 0)) = true := by
        cases h1 : eqW w ⟨#[]⟩ with
        | true => rfl
        | false => rw [h1] at h0; simp only [Bool.not_false, Bool.true_and] at h0; rw [h0]; rfl
      rw [this]
      rfl
    have hn : okDg w = false := by
      unfold okDg
      rw [kind2]
      cases h1 : eqW w ⟨#[]⟩ with
      | true =>
        have := eqW_size h1
        have z : (⟨#[]⟩ : ByteArray).size = 0 := rfl
        rw [decide_eq_false (by omega)]
        rfl
      | false =>
        rw [h1] at h0
        simp only [Bool.not_false, Bool.true_and] at h0
        rw [h0]
        simp
    unfold numV numQ
    rw [hn]
    split
    · rw [hb]
    rfl
  | true =>
    simp only [Bool.and_eq_true, Bool.not_eq_true'] at h0
    have hsz : 0 < w.size := sz_pos (by have := h0.1; unfold eqW at this; rw [this]; rfl)
    have ha := hd h0.2
    have hl : w.data.toList ≠ [] := by
      intro e
      have : w.size = 0 := by
        show w.data.size = 0
        rw [← Array.length_toList, e]
        rfl
      omega
    have hlen : w.data.toList.length = w.size := by simp
    cases hz : (decide ((w.size : Int) > 1) && (byteAt w 0 == 48)) with
    | true =>
      have hb : ∀ v, numBad w v false = true := by
        intro v
        unfold numBad
        rw [hz]
        simp
      have hn : okDg w = false := by
        unfold okDg
        simp only [Bool.and_eq_true, decide_eq_true_eq, beq_iff_eq] at hz
        have e1 : ((w.size : Int) == 1) = false := by rw [beq_eq_false_iff_ne]; omega
        have e2 : (byteAt w 0 != 48) = false := by rw [hz.2]; rfl
        rw [e1, e2]
        simp
      unfold numV numQ
      rw [hn]
      split
      · rw [hb]
      rfl
    | false =>
      have hbad : ∀ v, numBad w v false = decide (v > 1099511627776) := by
        intro v
        unfold numBad
        rw [h0.1, h0.2, hz]
        rfl
      have hfirst : ((w.size : Int) == 1 || byteAt w 0 != 48) = true := by
        cases h1 : ((w.size : Int) == 1) with
        | true => rfl
        | false =>
          rw [beq_eq_false_iff_ne] at h1
          rw [decide_eq_true (by omega)] at hz
          simp only [Bool.true_and] at hz
          simp [bne, hz]
      by_cases h15 : w.size ≤ 15
      · have hok : okDg w = true := by
          unfold okDg
          rw [hfirst, kind2, h0.2, decide_eq_true (by omega), decide_eq_true (by omega)]
          rfl
        have hv := valR_eq w ha h15 w.size 0 0 (by omega) (by decide)
        rw [List.drop_zero] at hv
        have hv' : valR w w.size 0 0 = (dval 0 w.data.toList : Int) := hv
        unfold numV numQ
        rw [hok, hv']
        rcases atoi_digits hl ha with ⟨v, h1, h2⟩ | ⟨h1, h2⟩
        · rw [h1]
          simp only
          rw [hbad, h2]
          cases decide ((dval 0 w.data.toList : Int) > 1099511627776) <;> rfl
        rw [h1]
        simp only
        rw [decide_eq_true (by omega)]
      have hok : okDg w = false := by
        unfold okDg
        rw [decide_eq_false (by omega : ¬ (w.size : Int) ≤ 15)]
        simp
      have hbig : 1099511627776 < dval 0 w.data.toList := by
        cases hwl : w.data.toList with
        | nil => exact absurd hwl hl
        | cons c r =>
          have hc := ha c (by rw [hwl]; exact List.mem_cons_self)
          have hb0 := byteAt_list w 0 hsz
          have hc0 : w.data.toList[0]'(by omega) = c := by simp [hwl]
          rw [hc0] at hb0
          have hne : c.toNat ≠ 48 := by
            intro e
            rw [decide_eq_true (by omega)] at hz
            have : byteAt w 0 = 48 := by
              have e0 : byteAt w 0 = byteAt w ((0 : Nat) : Int) := rfl
              rw [e0, hb0, e]
              rfl
            rw [this] at hz
            cases hz
          rw [hwl, List.length_cons] at hlen
          have hg := dval_ge r (0 * 10 + (c.toNat - 48))
          rw [dval_cons]
          have hp : (10 : Nat) ^ 15 ≤ 10 ^ r.length := Nat.pow_le_pow_right (by decide) (by omega)
          have hp2 : (10 : Nat) ^ 15 = 1000000000000000 := by decide
          have h1 : 1 * 10 ^ r.length ≤ (0 * 10 + (c.toNat - 48)) * 10 ^ r.length := Nat.mul_le_mul_right _ (by omega)
          omega
      unfold numV numQ
      rw [hok]
      rcases atoi_digits hl ha with ⟨v, h1, h2⟩ | ⟨h1, h2⟩
      · rw [h1]
        simp only
        rw [hbad, h2, decide_eq_true (by omega)]
      rw [h1]
end Go.Abs
end
