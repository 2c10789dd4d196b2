/- Texts of this proof, joined: AbsMD, AbsNF, AbsME, AbsMF. -/
import Derived.Test.YtedljfabpknjiaaGreatDoorR12
import Derived.Test.YtedljfabpknjiaaGreatDoorR11
section
namespace Go.Abs
open Go Go.Proofs
attribute [local irreducible] aCall AWp Sub Spec
mutual
def atomQ (W : List Wd) : Nat → Int → RSt → Option (Ex × RSt)
  | 0, _, _ => none
  | n + 1, d, X => match eqW (wrd W X) ⟨#[45]⟩ with
    | true => match d == 12 with
      | true => some (.mk ⟨#[]⟩ 0 ⟨#[]⟩ [], failW W 2 X)
      | false => (atomQ W n (IntKind.i64.wrap (d + 1)) (passW W X)).bind fun r => some (.mk ⟨#[110, 101, 103]⟩ 0 ⟨#[]⟩ [r.1], r.2)
    | false => match eqW (wrd W X) ⟨#[40]⟩ with
      | true => match d == 12 with
        | true => some (.mk ⟨#[]⟩ 0 ⟨#[]⟩ [], failW W 2 X)
        | false => (termQ W n (IntKind.i64.wrap (d + 1)) (passW W X)).bind fun r => some (r.1, wantW W ⟨#[41]⟩ r.2)
      | false => match (decide (((wrd W X).size : Int) > 0) && (kindR (byteAt (wrd W X) 0) == 2)) with
        | true => some (.mk ⟨#[110, 117, 109]⟩ (numW W X).1 ⟨#[]⟩ [], (numW W X).2)
        | false => match eqW (wrd W (nameW W X).2) ⟨#[91]⟩ with
          | false => some (.mk ⟨#[118, 97, 114]⟩ 0 (nameW W X).1 [], (nameW W X).2)
          | true => match d == 12 with
            | true => some (.mk ⟨#[]⟩ 0 ⟨#[]⟩ [], failW W 2 (nameW W X).2)
            | false => (termQ W n (IntKind.i64.wrap (d + 1)) (passW W (nameW W X).2)).bind fun r => some (.mk ⟨#[97, 116]⟩ 0 (nameW W X).1 [r.1], wantW W ⟨#[93]⟩ r.2)
def timesQ (W : List Wd) : Nat → Int → RSt → Option (Ex × RSt)
  | 0, _, _ => none
  | n + 1, d, X => (atomQ W n d X).bind fun r => timesQL W n d r.1 r.2
def timesQL (W : List Wd) : Nat → Int → Ex → RSt → Option (Ex × RSt)
  | 0, _, _, _ => none
  | n + 1, d, e, X => match ((eqW (wrd W X) ⟨#[42]⟩ || eqW (wrd W X) ⟨#[47]⟩) || eqW (wrd W X) ⟨#[37]⟩) with
    | true => (atomQ W n d (passW W X)).bind fun r => timesQL W n d (.mk (wrd W X) 0 ⟨#[]⟩ [e, r.1]) r.2
    | false => some (e, X)
def termQ (W : List Wd) : Nat → Int → RSt → Option (Ex × RSt)
  | 0, _, _ => none
  | n + 1, d, X => (timesQ W n d X).bind fun r => termQL W n d r.1 r.2
def termQL (W : List Wd) : Nat → Int → Ex → RSt → Option (Ex × RSt)
  | 0, _, _, _ => none
  | n + 1, d, e, X => match (eqW (wrd W X) ⟨#[43]⟩ || eqW (wrd W X) ⟨#[45]⟩) with
    | true => (timesQ W n d (passW W X)).bind fun r => termQL W n d (.mk (wrd W X) 0 ⟨#[]⟩ [e, r.1]) r.2
    | false => some (e, X)
end
/-- Where it stands then is in range. -/
def KP {α : Type} (W : List Wd) (o : Option (α × RSt)) : Prop := ∀ r, o = some r → r.2.k < W.length
theorem KP.bind {α β : Type} {W : List Wd} {o : Option (α × RSt)} {f : α × RSt → Option (β × RSt)} (h : KP W o) (k : ∀ r, r.2.k < W.length → KP W (f r)) : KP W (o.bind f) := by
  cases o with
  | none => intro r hr; cases hr
  | some x => exact k x (h x rfl)
theorem KP.some {α : Type} {W : List Wd} {a : α} {Y : RSt} (h : Y.k < W.length) : KP W (some (a, Y)) := by
  intro r hr
  cases hr
  exact h
theorem failW_lt {W : List Wd} {c : Int} {X : RSt} (h : X.k < W.length) : (failW W c X).k < W.length := by rw [failW_k]; exact h
theorem exK (W : List Wd) : ∀ n, (∀ d X, X.k < W.length → KP W (atomQ W n d X)) ∧ (∀ d X, X.k < W.length → KP W (timesQ W n d X)) ∧ (∀ d e X, X.k < W.length → KP W (timesQL W n d e X)) ∧ (∀ d X, X.k < W.length → KP W (termQ W n d X)) ∧ (∀ d e X, X.k < W.length → KP W (termQL W n d e X))
  | 0 => ⟨fun d X h r hr => by simp [atomQ] at hr, fun d X h r hr => by simp [timesQ] at hr, fun d e X h r hr => by simp [timesQL] at hr, fun d X h r hr => by simp [termQ] at hr, fun d e X h r hr => by simp [termQL] at hr⟩
  | n + 1 => by
    obtain ⟨h1, h2, h3, h4, h5⟩ := exK W n
    refine ⟨fun d X h => ?_, fun d X h => ?_, fun d e X h => ?_, fun d X h => ?_, fun d e X h => ?_⟩
    · simp only [atomQ]
      split
      · split
        · exact KP.some (failW_lt h)
        exact (h1 _ _ (passW_k h)).bind fun r hr => KP.some hr
      split
      · split
        · exact KP.some (failW_lt h)
        exact (h4 _ _ (passW_k h)).bind fun r hr => KP.some (wantW_k hr)
      split
      · exact KP.some (numW_k h)
      split
      · exact KP.some (nameW_k h)
      split
      · exact KP.some (failW_lt (nameW_k h))
      exact (h4 _ _ (passW_k (nameW_k h))).bind fun r hr => KP.some (wantW_k hr)
    · simp only [timesQ]
      exact (h1 _ _ h).bind fun r hr => h3 _ _ _ hr
    · simp only [timesQL]
      split
      · exact (h1 _ _ (passW_k h)).bind fun r hr => h3 _ _ _ hr
      exact KP.some h
    · simp only [termQ]
      exact (h2 _ _ h).bind fun r hr => h5 _ _ _ hr
    simp only [termQL]
    split
    · exact (h2 _ _ (passW_k h)).bind fun r hr => h5 _ _ _ hr
    exact KP.some h
section
variable {G : Glob} {W : List Wd}
def AtOk (G : Glob) (W : List Wd) (n : Nat) : Prop := ∀ (d : Int) (X : RSt), X.k < W.length → ∀ r, atomQ W n d X = some r → Spec Tryz.prog G 200 [.box 0 0, .d (num d)] [PB W X] (.ret (encE r.1)) [PB W r.2]
def TiOk (G : Glob) (W : List Wd) (n : Nat) : Prop := ∀ (d : Int) (X : RSt), X.k < W.length → ∀ r, timesQ W n d X = some r → Spec Tryz.prog G 145 [.box 0 0, .d (num d)] [PB W X] (.ret (encE r.1)) [PB W r.2]
def TeOk (G : Glob) (W : List Wd) (n : Nat) : Prop := ∀ (d : Int) (X : RSt), X.k < W.length → ∀ r, termQ W n d X = some r → Spec Tryz.prog G 64 [.box 0 0, .d (num d)] [PB W X] (.ret (encE r.1)) [PB W r.2]
theorem at_both {n : Nat} (h : AtOk G W n) {d : Int} {X : RSt} (hk : X.k < W.length) {r : Ex × RSt} (e : atomQ W n d X = some r) : r.2.k < W.length ∧ Spec Tryz.prog G 200 [.box 0 0, .d (num d)] [PB W X] (.ret (encE r.1)) [PB W r.2] := ⟨(exK W n).1 d X hk r e, h d X hk r e⟩
theorem ti_both {n : Nat} (h : TiOk G W n) {d : Int} {X : RSt} (hk : X.k < W.length) {r : Ex × RSt} (e : timesQ W n d X = some r) : r.2.k < W.length ∧ Spec Tryz.prog G 145 [.box 0 0, .d (num d)] [PB W X] (.ret (encE r.1)) [PB W r.2] := ⟨(exK W n).2.1 d X hk r e, h d X hk r e⟩
theorem te_both {n : Nat} (h : TeOk G W n) {d : Int} {X : RSt} (hk : X.k < W.length) {r : Ex × RSt} (e : termQ W n d X = some r) : r.2.k < W.length ∧ Spec Tryz.prog G 64 [.box 0 0, .d (num d)] [PB W X] (.ret (encE r.1)) [PB W r.2] := ⟨(exK W n).2.2.2.1 d X hk r e, h d X hk r e⟩
theorem atW_step (hW : WOk W) (n : Nat) (ihA : AtOk G W n) (ihT : TeOk G W n) : AtOk G W (n + 1) := by
  intro d X hk r hG
  refine spec_of_awp2 TT_ok (N := 79) Tryz.func200 rfl (by rfl) (Nat.le_refl _) rfl ?_
  refine awp_seq ?_; refine rgn fun pan K hp hK => ?_; refine hK _ ?_; clear hK hp K pan; refine awp_norm [0, 1, 4] rfl rfl ?_; refine awp_seq ?_; refine rgn fun pan K hp hK => ?_; show aCall _ _ _ _ _ _ _
  refine aCall_ret (L := [0]) rfl rfl rfl (wordR_spec X hk _ rfl) rfl rfl rfl rfl ?_
  refine hK _ ?_; clear hK hp K pan; refine awp_norm [0, 1, 4, 5] rfl rfl ?_; refine awp_seq ?_; refine awp_seq ?_; refine rgn fun pan K hp hK => ?_
  refine onB_intro (fun h1 => ?_) (fun h1 => ?_)
  · have eh1 : eqW (wrd W X) ⟨#[45]⟩ = true := h1
    refine hK _ ?_; clear hK hp K pan; refine awp_norm [0, 1, 4, 5, 18] rfl rfl ?_; refine awp_cond rfl ?_; refine awp_seq ?_; refine awp_seq ?_; refine rgn fun pan K hp hK => ?_; refine hK _ ?_; clear hK hp K pan; refine awp_norm [0, 1, 4, 5, 20] rfl rfl ?_
    refine awp_cond2 rfl (onB_intro (fun h2 => ?_) (fun h2 => ?_))
    · have eh2 : (d == 12) = true := h2
      refine awp_seq ?_; refine rgn fun pan K hp hK => ?_; show aCall _ _ _ _ _ _ _
      refine aCall_ret (L := [0]) rfl rfl rfl (failR_spec X hk 2 _ rfl) rfl rfl rfl rfl ?_
      refine hK _ ?_; clear hK hp K pan; refine awp_norm [4] rfl rfl ?_; refine awp_seq ?_; refine rgn fun pan K hp hK => ?_; refine hK _ ?_; clear hK hp K pan; refine awp_norm [4] rfl rfl ?_; refine awp_ret ?_
      simp only [atomQ, eh1, eh2, Option.some.injEq] at hG
      subst hG
      exact ⟨_, [0], _, [encE _], rfl, rfl, rfl, rfl, rfl, (by first | exact PWs.refl _ | (refine PWs.cons (PW.d ?_) PWs.nil; repeat (first | exact DW.refl _ | refine DW.agg ?_ | refine DWs.cons ?_ ?_ | exact DWs.nil | exact DW.nil _))), rfl⟩
    have eh2 : (d == 12) = false := h2
    refine awp_skip ?_; refine awp_seq ?_; refine rgn fun pan K hp hK => ?_; show aCall _ _ _ _ _ _ _
    refine aCall_ret (L := [0]) rfl rfl rfl (passR_spec X hk hW _ rfl) rfl rfl rfl rfl ?_
    refine hK _ ?_; clear hK hp K pan; refine awp_norm [0, 1, 4, 5] rfl rfl ?_; refine awp_seq ?_; refine awp_seq ?_; refine rgn fun pan K hp hK => ?_; refine hK _ ?_; clear hK hp K pan; refine awp_norm [0, 1, 4, 27] rfl rfl ?_
    refine awp_cond2 rfl (onB_intro (fun h3 => ?_) (fun h3 => ?_))
    · refine awp_seq ?_; refine rgn fun pan K hp hK => ?_; show aCall _ _ _ _ _ _ _
      cases hr1 : atomQ W n (IntKind.i64.wrap (d + 1)) (passW W X) with
      | none => simp only [atomQ, eh1, h2, hr1, Option.bind_none] at hG <;> cases hG
      | some r1 =>
        obtain ⟨⟨o1, n1, m1, l1⟩, Y1⟩ := r1
        obtain ⟨hk1, sp1⟩ := at_both ihA (passW_k hk) hr1
        refine aCall_ret (L := [0]) rfl rfl rfl sp1 rfl rfl rfl rfl ?_
        refine hK _ ?_; clear hK hp K pan; refine awp_norm [4, 6] rfl rfl ?_; refine awp_seq ?_; refine rgn fun pan K hp hK => ?_; refine hK _ ?_; clear hK hp K pan; refine awp_norm [4] rfl rfl ?_; refine awp_ret ?_
        simp only [atomQ, eh1, eh2, hr1, Option.bind_some, Option.some.injEq] at hG
        subst hG
        exact ⟨_, [0], _, [encE _], rfl, rfl, rfl, rfl, rfl, (by first | exact PWs.refl _ | (refine PWs.cons (PW.d ?_) PWs.nil; repeat (first | exact DW.refl _ | refine DW.agg ?_ | refine DWs.cons ?_ ?_ | exact DWs.nil | exact DW.nil _))), rfl⟩
    exact absurd (h1.symm.trans h3) (by decide)
  have eh1 : eqW (wrd W X) ⟨#[45]⟩ = false := h1
  refine hK _ ?_; clear hK hp K pan; refine awp_norm [0, 1, 4, 5, 18] rfl rfl ?_
  refine awp_cond2 rfl (onB_intro (fun h2 => ?_) (fun h2 => ?_))
  · have eh2 : eqW (wrd W X) ⟨#[40]⟩ = true := h2
    refine awp_seq ?_; refine awp_seq ?_; refine rgn fun pan K hp hK => ?_; refine hK _ ?_; clear hK hp K pan; refine awp_norm [0, 1, 4, 5, 20] rfl rfl ?_
    refine awp_cond2 rfl (onB_intro (fun h3 => ?_) (fun h3 => ?_))
    · have eh3 : (d == 12) = true := h3
      refine awp_seq ?_; refine rgn fun pan K hp hK => ?_; show aCall _ _ _ _ _ _ _
      refine aCall_ret (L := [0]) rfl rfl rfl (failR_spec X hk 2 _ rfl) rfl rfl rfl rfl ?_
      refine hK _ ?_; clear hK hp K pan; refine awp_norm [4] rfl rfl ?_; refine awp_seq ?_; refine rgn fun pan K hp hK => ?_; refine hK _ ?_; clear hK hp K pan; refine awp_norm [4] rfl rfl ?_; refine awp_ret ?_
      simp only [atomQ, eh1, eh2, eh3, Option.some.injEq] at hG
      subst hG
      exact ⟨_, [0], _, [encE _], rfl, rfl, rfl, rfl, rfl, (by first | exact PWs.refl _ | (refine PWs.cons (PW.d ?_) PWs.nil; repeat (first | exact DW.refl _ | refine DW.agg ?_ | refine DWs.cons ?_ ?_ | exact DWs.nil | exact DW.nil _))), rfl⟩
    have eh3 : (d == 12) = false := h3
    refine awp_skip ?_; refine awp_seq ?_; refine rgn fun pan K hp hK => ?_; show aCall _ _ _ _ _ _ _
    refine aCall_ret (L := [0]) rfl rfl rfl (passR_spec X hk hW _ rfl) rfl rfl rfl rfl ?_
    refine hK _ ?_; clear hK hp K pan; refine awp_norm [0, 1, 4, 5] rfl rfl ?_; refine awp_seq ?_; refine awp_seq ?_; refine rgn fun pan K hp hK => ?_; refine hK _ ?_; clear hK hp K pan; refine awp_norm [0, 1, 4, 27] rfl rfl ?_
    refine awp_cond2 rfl (onB_intro (fun h4 => ?_) (fun h4 => ?_))
    · exact absurd (h1.symm.trans h4) (by decide)
    refine awp_skip ?_; refine awp_seq ?_; refine rgn fun pan K hp hK => ?_; show aCall _ _ _ _ _ _ _
    cases hr1 : termQ W n (IntKind.i64.wrap (d + 1)) (passW W X) with
    | none => simp only [atomQ, eh1, eh2, h3, hr1, Option.bind_none] at hG <;> cases hG
    | some r1 =>
      obtain ⟨⟨o1, n1, m1, l1⟩, Y1⟩ := r1
      obtain ⟨hk1, sp1⟩ := te_both ihT (passW_k hk) hr1
      refine aCall_ret (L := [0]) rfl rfl rfl sp1 rfl rfl rfl rfl ?_
      refine hK _ ?_; clear hK hp K pan; refine awp_norm [0, 4, 7] rfl rfl ?_; refine awp_seq ?_; refine rgn fun pan K hp hK => ?_; show aCall _ _ _ _ _ _ _
      refine aCall_ret (L := [0]) rfl rfl rfl (wantR_spec Y1 hk1 hW ⟨#[41]⟩ _ rfl) rfl rfl rfl rfl ?_
      refine hK _ ?_; clear hK hp K pan; refine awp_norm [4, 7] rfl rfl ?_; refine awp_seq ?_; refine rgn fun pan K hp hK => ?_; refine hK _ ?_; clear hK hp K pan; refine awp_norm [4] rfl rfl ?_; refine awp_ret ?_
      simp only [atomQ, eh1, eh2, eh3, hr1, Option.bind_some, Option.some.injEq] at hG
      subst hG
      exact ⟨_, [0], _, [encE _], rfl, rfl, rfl, rfl, rfl, (by first | exact PWs.refl _ | (refine PWs.cons (PW.d ?_) PWs.nil; repeat (first | exact DW.refl _ | refine DW.agg ?_ | refine DWs.cons ?_ ?_ | exact DWs.nil | exact DW.nil _))), rfl⟩
  have eh2 : eqW (wrd W X) ⟨#[40]⟩ = false := h2
  refine awp_skip ?_; refine awp_seq ?_; refine awp_seq ?_; refine rgn fun pan K hp hK => ?_
  refine onB_intro (fun h3 => ?_) (fun h3 => ?_)
  · have eh3 : decide (((wrd W X).size : Int) > 0) = true := h3
    have h3' := of_decide_eq_true h3
    refine And.intro (by omega) (And.intro (by omega) ?_)
    show aCall _ _ _ _ _ _ _
    refine aCall_ret (L := []) rfl rfl rfl (kind_spec _ _ _ rfl) rfl rfl rfl rfl ?_
    refine hK _ ?_; clear hK hp K pan; refine awp_norm [0, 1, 4, 50] rfl rfl ?_
    refine awp_cond2 rfl (onB_intro (fun h4 => ?_) (fun h4 => ?_))
    · have eh4 : (kindR (byteAt (wrd W X) 0) == 2) = true := h4
      refine awp_seq ?_; refine rgn fun pan K hp hK => ?_; show aCall _ _ _ _ _ _ _
      refine aCall_ret (L := [0]) rfl rfl rfl (numR_spec X hk hW _ rfl) rfl rfl rfl rfl ?_
      refine hK _ ?_; clear hK hp K pan; refine awp_norm [4, 8] rfl rfl ?_; refine awp_seq ?_; refine rgn fun pan K hp hK => ?_; refine hK _ ?_; clear hK hp K pan; refine awp_norm [4] rfl rfl ?_; refine awp_ret ?_
      simp only [atomQ, eh1, eh2, eh3, eh4, Bool.and_self, Option.some.injEq] at hG
      subst hG
      exact ⟨_, [0], _, [encE _], rfl, rfl, rfl, rfl, rfl, (by first | exact PWs.refl _ | (refine PWs.cons (PW.d ?_) PWs.nil; repeat (first | exact DW.refl _ | refine DW.agg ?_ | refine DWs.cons ?_ ?_ | exact DWs.nil | exact DW.nil _))), rfl⟩
    have eh4 : (kindR (byteAt (wrd W X) 0) == 2) = false := h4
    refine awp_skip ?_; refine awp_seq ?_; refine rgn fun pan K hp hK => ?_; show aCall _ _ _ _ _ _ _
    refine aCall_ret (L := [0]) rfl rfl rfl (nameR_spec X hk hW _ rfl) rfl rfl rfl rfl ?_
    refine hK _ ?_; clear hK hp K pan; refine awp_norm [0, 1, 4, 9] rfl rfl ?_; refine awp_seq ?_; refine awp_seq ?_; refine rgn fun pan K hp hK => ?_; show aCall _ _ _ _ _ _ _
    refine aCall_ret (L := [0]) rfl rfl rfl (wordR_spec (nameW W X).2 (nameW_k hk) _ rfl) rfl rfl rfl rfl ?_
    refine hK _ ?_; clear hK hp K pan; refine awp_norm [0, 1, 4, 9, 59] rfl rfl ?_
    refine awp_cond2 rfl (onB_intro (fun h5 => ?_) (fun h5 => ?_))
    · have eh5 : eqW (wrd W (nameW W X).2) ⟨#[91]⟩ = false := (by simpa [eqW] using h5)
      refine awp_seq ?_; refine rgn fun pan K hp hK => ?_; refine hK _ ?_; clear hK hp K pan; refine awp_norm [4] rfl rfl ?_; refine awp_ret ?_
      simp only [atomQ, eh1, eh2, eh3, eh4, eh5, Bool.and_false, Option.some.injEq] at hG
      subst hG
      exact ⟨_, [0], _, [encE _], rfl, rfl, rfl, rfl, rfl, (by first | exact PWs.refl _ | (refine PWs.cons (PW.d ?_) PWs.nil; repeat (first | exact DW.refl _ | refine DW.agg ?_ | refine DWs.cons ?_ ?_ | exact DWs.nil | exact DW.nil _))), rfl⟩
    have eh5 : eqW (wrd W (nameW W X).2) ⟨#[91]⟩ = true := (by simpa [eqW] using h5)
    refine awp_skip ?_; refine awp_seq ?_; refine awp_seq ?_; refine rgn fun pan K hp hK => ?_; refine hK _ ?_; clear hK hp K pan; refine awp_norm [0, 1, 4, 9, 63] rfl rfl ?_
    refine awp_cond2 rfl (onB_intro (fun h6 => ?_) (fun h6 => ?_))
    · have eh6 : (d == 12) = true := h6
      refine awp_seq ?_; refine rgn fun pan K hp hK => ?_; show aCall _ _ _ _ _ _ _
      refine aCall_ret (L := [0]) rfl rfl rfl (failR_spec (nameW W X).2 (nameW_k hk) 2 _ rfl) rfl rfl rfl rfl ?_
      refine hK _ ?_; clear hK hp K pan; refine awp_norm [4] rfl rfl ?_; refine awp_seq ?_; refine rgn fun pan K hp hK => ?_; refine hK _ ?_; clear hK hp K pan; refine awp_norm [4] rfl rfl ?_; refine awp_ret ?_
      simp only [atomQ, eh1, eh2, eh3, eh4, eh5, eh6, Bool.and_false, Option.some.injEq] at hG
      subst hG
      exact ⟨_, [0], _, [encE _], rfl, rfl, rfl, rfl, rfl, (by first | exact PWs.refl _ | (refine PWs.cons (PW.d ?_) PWs.nil; repeat (first | exact DW.refl _ | refine DW.agg ?_ | refine DWs.cons ?_ ?_ | exact DWs.nil | exact DW.nil _))), rfl⟩
    have eh6 : (d == 12) = false := h6
    refine awp_skip ?_; refine awp_seq ?_; refine rgn fun pan K hp hK => ?_; show aCall _ _ _ _ _ _ _
    refine aCall_ret (L := [0]) rfl rfl rfl (passR_spec (nameW W X).2 (nameW_k hk) hW _ rfl) rfl rfl rfl rfl ?_
    refine hK _ ?_; clear hK hp K pan; refine awp_norm [0, 1, 4, 9] rfl rfl ?_; refine awp_seq ?_; refine rgn fun pan K hp hK => ?_; show aCall _ _ _ _ _ _ _
    cases hr1 : termQ W n (IntKind.i64.wrap (d + 1)) (passW W (nameW W X).2) with
    | none => simp only [atomQ, eh1, eh2, h3, h4, eh5, h6, hr1, Option.bind_none, Bool.and_false] at hG <;> cases hG
    | some r1 =>
      obtain ⟨⟨o1, n1, m1, l1⟩, Y1⟩ := r1
      obtain ⟨hk1, sp1⟩ := te_both ihT (passW_k (nameW_k hk)) hr1
      refine aCall_ret (L := [0]) rfl rfl rfl sp1 rfl rfl rfl rfl ?_
      refine hK _ ?_; clear hK hp K pan; refine awp_norm [0, 4, 9, 10] rfl rfl ?_; refine awp_seq ?_; refine rgn fun pan K hp hK => ?_; show aCall _ _ _ _ _ _ _
      refine aCall_ret (L := [0]) rfl rfl rfl (wantR_spec Y1 hk1 hW ⟨#[93]⟩ _ rfl) rfl rfl rfl rfl ?_
      refine hK _ ?_; clear hK hp K pan; refine awp_norm [4, 9, 10] rfl rfl ?_; refine awp_seq ?_; refine rgn fun pan K hp hK => ?_; refine hK _ ?_; clear hK hp K pan; refine awp_norm [4] rfl rfl ?_; refine awp_ret ?_
      simp only [atomQ, eh1, eh2, eh3, eh4, eh5, eh6, hr1, Option.bind_some, Bool.and_false, Option.some.injEq] at hG
      subst hG
      exact ⟨_, [0], _, [encE _], rfl, rfl, rfl, rfl, rfl, (by first | exact PWs.refl _ | (refine PWs.cons (PW.d ?_) PWs.nil; repeat (first | exact DW.refl _ | refine DW.agg ?_ | refine DWs.cons ?_ ?_ | exact DWs.nil | exact DW.nil _))), rfl⟩
  have eh3 : decide (((wrd W X).size : Int) > 0) = false := h3
  refine hK _ ?_; clear hK hp K pan; refine awp_norm [0, 1, 4, 50] rfl rfl ?_; refine awp_cond rfl ?_; refine awp_skip ?_; refine awp_seq ?_; refine rgn fun pan K hp hK => ?_; show aCall _ _ _ _ _ _ _
  refine aCall_ret (L := [0]) rfl rfl rfl (nameR_spec X hk hW _ rfl) rfl rfl rfl rfl ?_
  refine hK _ ?_; clear hK hp K pan; refine awp_norm [0, 1, 4, 9] rfl rfl ?_; refine awp_seq ?_; refine awp_seq ?_; refine rgn fun pan K hp hK => ?_; show aCall _ _ _ _ _ _ _
  refine aCall_ret (L := [0]) rfl rfl rfl (wordR_spec (nameW W X).2 (nameW_k hk) _ rfl) rfl rfl rfl rfl ?_
  refine hK _ ?_; clear hK hp K pan; refine awp_norm [0, 1, 4, 9, 59] rfl rfl ?_
  refine awp_cond2 rfl (onB_intro (fun h4 => ?_) (fun h4 => ?_))
  · have eh4 : eqW (wrd W (nameW W X).2) ⟨#[91]⟩ = false := (by simpa [eqW] using h4)
    refine awp_seq ?_; refine rgn fun pan K hp hK => ?_; refine hK _ ?_; clear hK hp K pan; refine awp_norm [4] rfl rfl ?_; refine awp_ret ?_
    simp only [atomQ, eh1, eh2, eh3, eh4, Bool.false_and, Option.some.injEq] at hG
    subst hG
    exact ⟨_, [0], _, [encE _], rfl, rfl, rfl, rfl, rfl, (by first | exact PWs.refl _ | (refine PWs.cons (PW.d ?_) PWs.nil; repeat (first | exact DW.refl _ | refine DW.agg ?_ | refine DWs.cons ?_ ?_ | exact DWs.nil | exact DW.nil _))), rfl⟩
  have eh4 : eqW (wrd W (nameW W X).2) ⟨#[91]⟩ = true := (by simpa [eqW] using h4)
  refine awp_skip ?_; refine awp_seq ?_; refine awp_seq ?_; refine rgn fun pan K hp hK => ?_; refine hK _ ?_; clear hK hp K pan; refine awp_norm [0, 1, 4, 9, 63] rfl rfl ?_
  refine awp_cond2 rfl (onB_intro (fun h5 => ?_) (fun h5 => ?_))
  · have eh5 : (d == 12) = true := h5
    refine awp_seq ?_; refine rgn fun pan K hp hK => ?_; show aCall _ _ _ _ _ _ _
    refine aCall_ret (L := [0]) rfl rfl rfl (failR_spec (nameW W X).2 (nameW_k hk) 2 _ rfl) rfl rfl rfl rfl ?_
    refine hK _ ?_; clear hK hp K pan; refine awp_norm [4] rfl rfl ?_; refine awp_seq ?_; refine rgn fun pan K hp hK => ?_; refine hK _ ?_; clear hK hp K pan; refine awp_norm [4] rfl rfl ?_; refine awp_ret ?_
    simp only [atomQ, eh1, eh2, eh3, eh4, eh5, Bool.false_and, Option.some.injEq] at hG
    subst hG
    exact ⟨_, [0], _, [encE _], rfl, rfl, rfl, rfl, rfl, (by first | exact PWs.refl _ | (refine PWs.cons (PW.d ?_) PWs.nil; repeat (first | exact DW.refl _ | refine DW.agg ?_ | refine DWs.cons ?_ ?_ | exact DWs.nil | exact DW.nil _))), rfl⟩
  have eh5 : (d == 12) = false := h5
  refine awp_skip ?_; refine awp_seq ?_; refine rgn fun pan K hp hK => ?_; show aCall _ _ _ _ _ _ _
  refine aCall_ret (L := [0]) rfl rfl rfl (passR_spec (nameW W X).2 (nameW_k hk) hW _ rfl) rfl rfl rfl rfl ?_
  refine hK _ ?_; clear hK hp K pan; refine awp_norm [0, 1, 4, 9] rfl rfl ?_; refine awp_seq ?_; refine rgn fun pan K hp hK => ?_; show aCall _ _ _ _ _ _ _
  cases hr1 : termQ W n (IntKind.i64.wrap (d + 1)) (passW W (nameW W X).2) with
  | none => simp only [atomQ, eh1, eh2, h3, eh4, h5, hr1, Option.bind_none, Bool.false_and] at hG <;> cases hG
  | some r1 =>
    obtain ⟨⟨o1, n1, m1, l1⟩, Y1⟩ := r1
    obtain ⟨hk1, sp1⟩ := te_both ihT (passW_k (nameW_k hk)) hr1
    refine aCall_ret (L := [0]) rfl rfl rfl sp1 rfl rfl rfl rfl ?_
    refine hK _ ?_; clear hK hp K pan; refine awp_norm [0, 4, 9, 10] rfl rfl ?_; refine awp_seq ?_; refine rgn fun pan K hp hK => ?_; show aCall _ _ _ _ _ _ _
    refine aCall_ret (L := [0]) rfl rfl rfl (wantR_spec Y1 hk1 hW ⟨#[93]⟩ _ rfl) rfl rfl rfl rfl ?_
    refine hK _ ?_; clear hK hp K pan; refine awp_norm [4, 9, 10] rfl rfl ?_; refine awp_seq ?_; refine rgn fun pan K hp hK => ?_; refine hK _ ?_; clear hK hp K pan; refine awp_norm [4] rfl rfl ?_; refine awp_ret ?_
    simp only [atomQ, eh1, eh2, eh3, eh4, eh5, hr1, Option.bind_some, Bool.false_and, Option.some.injEq] at hG
    subst hG
    exact ⟨_, [0], _, [encE _], rfl, rfl, rfl, rfl, rfl, (by first | exact PWs.refl _ | (refine PWs.cons (PW.d ?_) PWs.nil; repeat (first | exact DW.refl _ | refine DW.agg ?_ | refine DWs.cons ?_ ?_ | exact DWs.nil | exact DW.nil _))), rfl⟩
theorem tiW_step (hW : WOk W) (n : Nat) (ih : ∀ m, m ≤ n → AtOk G W m) : TiOk G W (n + 1) := by
  intro d X hk r hG
  refine spec_of_awp2 TT_ok (N := 37) Tryz.func145 rfl (by rfl) (Nat.le_refl _) rfl ?_
  refine awp_seq ?_; refine rgn fun pan K hp hK => ?_; refine hK _ ?_; clear hK hp K pan; refine awp_norm [0, 1, 4] rfl rfl ?_; refine awp_seq ?_; refine rgn fun pan K hp hK => ?_; show aCall _ _ _ _ _ _ _
  cases hr1 : atomQ W n d X with
  | none => simp only [timesQ, hr1, Option.bind_none] at hG <;> cases hG
  | some r1 =>
    obtain ⟨⟨o1, n1, m1, l1⟩, Y1⟩ := r1
    obtain ⟨hk1, sp1⟩ := at_both (ih n (Nat.le_refl n)) hk hr1
    refine aCall_ret (L := [0]) rfl rfl rfl sp1 rfl rfl rfl rfl ?_
    refine hK _ ?_; clear hK hp K pan; refine awp_norm [0, 1, 4, 5] rfl rfl ?_; refine awp_seq ?_; refine awp_block ?_
    simp only [timesQ, hr1, Option.bind_some] at hG
    refine awp_loop (fun k Y => ∃ o1 n1 m1 l1 Z, k ≤ n ∧ Z.k < W.length ∧ timesQL W k d (.mk o1 n1 m1 l1) Z = some r ∧ Y = ⟨[(0, .box 0 0), (1, .d (num d)), (4, .box 1 0), (5, .box 2 0)], [PB W Z, .box 143 zE, .box 143 (cE o1 n1 m1 l1)]⟩) (n) (⟨_, _, _, _, _, Nat.le_refl _, hk1, hG, rfl⟩) ?_
    clear hG sp1 hr1 hk1 Y1 o1 n1 m1 l1
    rintro k Y ⟨o1, n1, m1, l1, Z, hkn, hkZ, hG, rfl⟩
    obtain ⟨m, rfl⟩ : ∃ m, k = m + 1 := by
      cases k with
      | zero => simp [timesQL] at hG
      | succ m => exact ⟨m, rfl⟩
    refine awp_cut (fun Q => Q = ⟨[(0, .box 0 0), (1, .d (num d)), (4, .box 1 0), (5, .box 2 0)], [PB W Z, .box 143 zE, .box 143 (cE o1 n1 m1 l1)]⟩ ∧ ((eqW (wrd W Z) ⟨#[42]⟩ || eqW (wrd W Z) ⟨#[47]⟩) || eqW (wrd W Z) ⟨#[37]⟩) = true) ?_ ?_
    · refine awp_seq ?_; refine rgn fun pan K hp hK => ?_; show aCall _ _ _ _ _ _ _
      refine aCall_ret (L := [0]) rfl rfl rfl (wordR_spec Z hkZ _ rfl) rfl rfl rfl rfl ?_
      refine onB_intro (fun h1 => ?_) (fun h1 => ?_)
      · have eh1 : eqW (wrd W Z) ⟨#[42]⟩ = true := h1
        refine hK _ ?_; clear hK hp K pan; refine awp_norm [0, 1, 4, 5, 23] rfl rfl ?_; refine awp_cond rfl ?_; refine awp_skip ?_
        exact ⟨_, sub_norm (slots := [0, 1, 4, 5]) rfl rfl, rfl, (by simp only [eh1, Bool.true_or])⟩
      have eh1 : eqW (wrd W Z) ⟨#[42]⟩ = false := h1
      show aCall _ _ _ _ _ _ _
      refine aCall_ret (L := [0]) rfl rfl rfl (wordR_spec Z hkZ _ rfl) rfl rfl rfl rfl ?_
      refine onB_intro (fun h2 => ?_) (fun h2 => ?_)
      · have eh2 : eqW (wrd W Z) ⟨#[47]⟩ = true := h2
        refine hK _ ?_; clear hK hp K pan; refine awp_norm [0, 1, 4, 5, 23] rfl rfl ?_; refine awp_cond rfl ?_; refine awp_skip ?_
        exact ⟨_, sub_norm (slots := [0, 1, 4, 5]) rfl rfl, rfl, (by simp only [eh1, eh2, Bool.true_or, Bool.or_true])⟩
      have eh2 : eqW (wrd W Z) ⟨#[47]⟩ = false := h2
      show aCall _ _ _ _ _ _ _
      refine aCall_ret (L := [0]) rfl rfl rfl (wordR_spec Z hkZ _ rfl) rfl rfl rfl rfl ?_
      refine hK _ ?_; clear hK hp K pan; refine awp_norm [0, 1, 4, 5, 23] rfl rfl ?_
      refine awp_cond2 rfl (onB_intro (fun h3 => ?_) (fun h3 => ?_))
      · have eh3 : eqW (wrd W Z) ⟨#[37]⟩ = true := h3
        refine awp_skip ?_
        exact ⟨_, sub_norm (slots := [0, 1, 4, 5]) rfl rfl, rfl, (by simp only [eh1, eh2, eh3, Bool.or_true, Bool.or_self])⟩
      have eh3 : eqW (wrd W Z) ⟨#[37]⟩ = false := h3
      refine awp_exit ?_
      refine awp_norm [4, 5] rfl rfl ?_; refine awp_seq ?_; refine rgn fun pan K hp hK => ?_; refine hK _ ?_; clear hK hp K pan; refine awp_norm [4] rfl rfl ?_; refine awp_ret ?_
      simp only [timesQL, eh1, eh2, eh3, Bool.or_self, Option.some.injEq] at hG
      subst hG
      exact ⟨_, [0], _, [encE _], rfl, rfl, rfl, rfl, rfl, (by first | exact PWs.refl _ | (refine PWs.cons (PW.d ?_) PWs.nil; repeat (first | exact DW.refl _ | refine DW.agg ?_ | refine DWs.cons ?_ ?_ | exact DWs.nil | exact DW.nil _))), rfl⟩
    rintro Q ⟨rfl, ht⟩
    refine awp_block ?_; refine awp_seq ?_; refine rgn fun pan K hp hK => ?_; show aCall _ _ _ _ _ _ _
    refine aCall_ret (L := [0]) rfl rfl rfl (wordR_spec Z hkZ _ rfl) rfl rfl rfl rfl ?_
    refine hK _ ?_; clear hK hp K pan; refine awp_norm [0, 1, 4, 5, 6] rfl rfl ?_; refine awp_seq ?_; refine rgn fun pan K hp hK => ?_; show aCall _ _ _ _ _ _ _
    refine aCall_ret (L := [0]) rfl rfl rfl (passR_spec Z hkZ hW _ rfl) rfl rfl rfl rfl ?_
    refine hK _ ?_; clear hK hp K pan; refine awp_norm [0, 1, 4, 5, 6] rfl rfl ?_; refine awp_seq ?_; refine rgn fun pan K hp hK => ?_; show aCall _ _ _ _ _ _ _
    cases hr2 : atomQ W m d (passW W Z) with
    | none => simp only [timesQL, ht, hr2, Option.bind_none] at hG <;> cases hG
    | some r2 =>
      obtain ⟨⟨o2, n2, m2, l2⟩, Y2⟩ := r2
      obtain ⟨hk2, sp2⟩ := at_both (ih m (by omega)) (passW_k hkZ) hr2
      refine aCall_ret (L := [0]) rfl rfl rfl sp2 rfl rfl rfl rfl ?_
      refine hK _ ?_; clear hK hp K pan; refine awp_norm [0, 1, 4, 5, 6, 7] rfl rfl ?_; refine rgn fun pan K hp hK => ?_; refine hK _ ?_; clear hK hp K pan
      simp only [timesQL, ht, hr2, Option.bind_some] at hG
      exact ⟨m, Nat.lt_succ_self m, _, sub_pick (L := [0, 1, 2]) (slots := [0, 1, 4, 5]) rfl rfl rfl rfl rfl, _, _, _, _, _, by omega, hk2, hG, rfl⟩
theorem teW_step (hW : WOk W) (n : Nat) (ih : ∀ m, m ≤ n → TiOk G W m) : TeOk G W (n + 1) := by
  intro d X hk r hG
  refine spec_of_awp2 TT_ok (N := 32) Tryz.func64 rfl (by rfl) (Nat.le_refl _) rfl ?_
  refine awp_seq ?_; refine rgn fun pan K hp hK => ?_; refine hK _ ?_; clear hK hp K pan; refine awp_norm [0, 1, 4] rfl rfl ?_; refine awp_seq ?_; refine rgn fun pan K hp hK => ?_; show aCall _ _ _ _ _ _ _
  cases hr1 : timesQ W n d X with
  | none => simp only [termQ, hr1, Option.bind_none] at hG <;> cases hG
  | some r1 =>
    obtain ⟨⟨o1, n1, m1, l1⟩, Y1⟩ := r1
    obtain ⟨hk1, sp1⟩ := ti_both (ih n (Nat.le_refl n)) hk hr1
    refine aCall_ret (L := [0]) rfl rfl rfl sp1 rfl rfl rfl rfl ?_
    refine hK _ ?_; clear hK hp K pan; refine awp_norm [0, 1, 4, 5] rfl rfl ?_; refine awp_seq ?_; refine awp_block ?_
    simp only [termQ, hr1, Option.bind_some] at hG
    refine awp_loop (fun k Y => ∃ o1 n1 m1 l1 Z, k ≤ n ∧ Z.k < W.length ∧ termQL W k d (.mk o1 n1 m1 l1) Z = some r ∧ Y = ⟨[(0, .box 0 0), (1, .d (num d)), (4, .box 1 0), (5, .box 2 0)], [PB W Z, .box 143 zE, .box 143 (cE o1 n1 m1 l1)]⟩) (n) (⟨_, _, _, _, _, Nat.le_refl _, hk1, hG, rfl⟩) ?_
    clear hG sp1 hr1 hk1 Y1 o1 n1 m1 l1
    rintro k Y ⟨o1, n1, m1, l1, Z, hkn, hkZ, hG, rfl⟩
    obtain ⟨m, rfl⟩ : ∃ m, k = m + 1 := by
      cases k with
      | zero => simp [termQL] at hG
      | succ m => exact ⟨m, rfl⟩
    refine awp_cut (fun Q => Q = ⟨[(0, .box 0 0), (1, .d (num d)), (4, .box 1 0), (5, .box 2 0)], [PB W Z, .box 143 zE, .box 143 (cE o1 n1 m1 l1)]⟩ ∧ (eqW (wrd W Z) ⟨#[43]⟩ || eqW (wrd W Z) ⟨#[45]⟩) = true) ?_ ?_
    · refine awp_seq ?_; refine rgn fun pan K hp hK => ?_; show aCall _ _ _ _ _ _ _
      refine aCall_ret (L := [0]) rfl rfl rfl (wordR_spec Z hkZ _ rfl) rfl rfl rfl rfl ?_
      refine onB_intro (fun h1 => ?_) (fun h1 => ?_)
      · have eh1 : eqW (wrd W Z) ⟨#[43]⟩ = true := h1
        refine hK _ ?_; clear hK hp K pan; refine awp_norm [0, 1, 4, 5, 18] rfl rfl ?_; refine awp_cond rfl ?_; refine awp_skip ?_
        exact ⟨_, sub_norm (slots := [0, 1, 4, 5]) rfl rfl, rfl, (by simp only [eh1, Bool.true_or])⟩
      have eh1 : eqW (wrd W Z) ⟨#[43]⟩ = false := h1
      show aCall _ _ _ _ _ _ _
      refine aCall_ret (L := [0]) rfl rfl rfl (wordR_spec Z hkZ _ rfl) rfl rfl rfl rfl ?_
      refine hK _ ?_; clear hK hp K pan; refine awp_norm [0, 1, 4, 5, 18] rfl rfl ?_
      refine awp_cond2 rfl (onB_intro (fun h2 => ?_) (fun h2 => ?_))
      · have eh2 : eqW (wrd W Z) ⟨#[45]⟩ = true := h2
        refine awp_skip ?_
        exact ⟨_, sub_norm (slots := [0, 1, 4, 5]) rfl rfl, rfl, (by simp only [eh1, eh2, Bool.or_true])⟩
      have eh2 : eqW (wrd W Z) ⟨#[45]⟩ = false := h2
      refine awp_exit ?_
      refine awp_norm [4, 5] rfl rfl ?_; refine awp_seq ?_; refine rgn fun pan K hp hK => ?_; refine hK _ ?_; clear hK hp K pan; refine awp_norm [4] rfl rfl ?_; refine awp_ret ?_
      simp only [termQL, eh1, eh2, Bool.or_self, Option.some.injEq] at hG
      subst hG
      exact ⟨_, [0], _, [encE _], rfl, rfl, rfl, rfl, rfl, (by first | exact PWs.refl _ | (refine PWs.cons (PW.d ?_) PWs.nil; repeat (first | exact DW.refl _ | refine DW.agg ?_ | refine DWs.cons ?_ ?_ | exact DWs.nil | exact DW.nil _))), rfl⟩
    rintro Q ⟨rfl, ht⟩
    refine awp_block ?_; refine awp_seq ?_; refine rgn fun pan K hp hK => ?_; show aCall _ _ _ _ _ _ _
    refine aCall_ret (L := [0]) rfl rfl rfl (wordR_spec Z hkZ _ rfl) rfl rfl rfl rfl ?_
    refine hK _ ?_; clear hK hp K pan; refine awp_norm [0, 1, 4, 5, 6] rfl rfl ?_; refine awp_seq ?_; refine rgn fun pan K hp hK => ?_; show aCall _ _ _ _ _ _ _
    refine aCall_ret (L := [0]) rfl rfl rfl (passR_spec Z hkZ hW _ rfl) rfl rfl rfl rfl ?_
    refine hK _ ?_; clear hK hp K pan; refine awp_norm [0, 1, 4, 5, 6] rfl rfl ?_; refine awp_seq ?_; refine rgn fun pan K hp hK => ?_; show aCall _ _ _ _ _ _ _
    cases hr2 : timesQ W m d (passW W Z) with
    | none => simp only [termQL, ht, hr2, Option.bind_none] at hG <;> cases hG
    | some r2 =>
      obtain ⟨⟨o2, n2, m2, l2⟩, Y2⟩ := r2
      obtain ⟨hk2, sp2⟩ := ti_both (ih m (by omega)) (passW_k hkZ) hr2
      refine aCall_ret (L := [0]) rfl rfl rfl sp2 rfl rfl rfl rfl ?_
      refine hK _ ?_; clear hK hp K pan; refine awp_norm [0, 1, 4, 5, 6, 7] rfl rfl ?_; refine rgn fun pan K hp hK => ?_; refine hK _ ?_; clear hK hp K pan
      simp only [termQL, ht, hr2, Option.bind_some] at hG
      exact ⟨m, Nat.lt_succ_self m, _, sub_pick (L := [0, 1, 2]) (slots := [0, 1, 4, 5]) rfl rfl rfl rfl rfl, _, _, _, _, _, by omega, hk2, hG, rfl⟩
theorem termsW_ok (hW : WOk W) : ∀ n, AtOk G W n ∧ TiOk G W n ∧ TeOk G W n := by
  intro n
  induction n using Nat.strongRecOn with
  | _ n ih =>
    cases n with
    | zero => exact ⟨fun d X _ r h => by simp [atomQ] at h, fun d X _ r h => by simp [timesQ] at h, fun d X _ r h => by simp [termQ] at h⟩
    | succ n => exact ⟨atW_step hW n (ih n (by omega)).1 (ih n (by omega)).2.2, tiW_step hW n (fun m hm => (ih m (by omega)).1), teW_step hW n (fun m hm => (ih m (by omega)).2.1)⟩
end
end Go.Abs
end
section
namespace Go.Abs
open Go Go.Proofs
abbrev okX (k : Nat) : RSt := ⟨k, 0, 0⟩
/-- The reader's answer and the reference's. -/
def Sim {s : ByteArray} {α : Type} (W : List Wd) (r : R s α) (o : Option (α × RSt)) : Prop := match r with
  | .ok a q => ∃ k, At s W k q ∧ o = some (a, okX k)
  | .bad q c => ∃ a X, o = some (a, X) ∧ X.c = posOf c + 1 ∧ X.a = q.i ∧ c ≤ 3
  | .out => True
section
variable {s : ByteArray} {W : List Wd}
theorem wrd_ft {X : RSt} (h : 0 < X.c) : wrd W X = ⟨#[]⟩ := by unfold wrd; rw [decide_eq_true (by omega)]
theorem failW_ft {X : RSt} (h : 0 < X.c) (c : Int) : failW W c X = X := by unfold failW; rw [beq_eq_false_iff_ne.2 (by omega)]
theorem passW_ft {X : RSt} (h : 0 < X.c) : passW W X = X := by unfold passW; rw [beq_eq_false_iff_ne.2 (by omega)]
theorem wantW_ft {X : RSt} (h : 0 < X.c) (x : ByteArray) : wantW W x X = X := by unfold wantW; rw [decide_eq_true (by omega)]
theorem hasW_ft {X : RSt} (h : 0 < X.c) (x : ByteArray) : hasW W x X = (false, X) := by unfold hasW; rw [decide_eq_true (by omega)]
theorem nameW_ft {X : RSt} (h : 0 < X.c) : nameW W X = (⟨#[]⟩, X) := by
  unfold nameW
  rw [wrd_ft h, failW_ft h]
  have : isNameF ⟨#[]⟩ = false := by kernel_rfl
  rw [this]
theorem numW_ft {X : RSt} (h : 0 < X.c) : numW W X = (0, X) := by
  unfold numW
  rw [wrd_ft h, failW_ft h]
  have : okDg ⟨#[]⟩ = false := by kernel_rfl
  rw [this]
def jE : Ex := .mk ⟨#[118, 97, 114]⟩ 0 ⟨#[]⟩ []
theorem atomQ_ft {X : RSt} (h : 0 < X.c) (d : Int) : ∀ n, 1 ≤ n → atomQ W n d X = some (jE, X)
  | 0, hn => absurd hn (by omega)
  | n + 1, _ => by
    have e1 : eqW (⟨#[]⟩ : ByteArray) ⟨#[45]⟩ = false := by kernel_rfl
    have e2 : eqW (⟨#[]⟩ : ByteArray) ⟨#[40]⟩ = false := by kernel_rfl
    have e3 : eqW (⟨#[]⟩ : ByteArray) ⟨#[91]⟩ = false := by kernel_rfl
    have e4 : decide (((⟨#[]⟩ : ByteArray).size : Int) > 0) = false := by kernel_rfl
    simp only [atomQ, wrd_ft h, e1, e2, e4, Bool.false_and, nameW_ft h, e3]
    rfl
theorem timesQ_ft {X : RSt} (h : 0 < X.c) (d : Int) : ∀ n, 2 ≤ n → timesQ W n d X = some (jE, X)
  | 0, hn => absurd hn (by omega)
  | 1, hn => absurd hn (by omega)
  | n + 2, _ => by
    have e1 : eqW (⟨#[]⟩ : ByteArray) ⟨#[42]⟩ = false := by kernel_rfl
    have e2 : eqW (⟨#[]⟩ : ByteArray) ⟨#[47]⟩ = false := by kernel_rfl
    have e3 : eqW (⟨#[]⟩ : ByteArray) ⟨#[37]⟩ = false := by kernel_rfl
    rw [timesQ, atomQ_ft h d (n + 1) (by omega), Option.bind_some]
    simp only [timesQL, wrd_ft h, e1, e2, e3, Bool.or_self]
theorem termQ_ft {X : RSt} (h : 0 < X.c) (d : Int) : ∀ n, 3 ≤ n → termQ W n d X = some (jE, X)
  | 0, hn => absurd hn (by omega)
  | 1, hn => absurd hn (by omega)
  | 2, hn => absurd hn (by omega)
  | n + 3, _ => by
    have e1 : eqW (⟨#[]⟩ : ByteArray) ⟨#[43]⟩ = false := by kernel_rfl
    have e2 : eqW (⟨#[]⟩ : ByteArray) ⟨#[45]⟩ = false := by kernel_rfl
    rw [termQ, timesQ_ft h d (n + 2) (by omega), Option.bind_some]
    simp only [termQL, wrd_ft h, e1, e2, Bool.or_self]
theorem wrd_ok {k : Nat} {p : PS s} (h : At s W k p) : wrd W (okX k) = p.w := by
  unfold wrd
  rw [decide_eq_false (show ¬ (0 : Int) > 0 by decide), h.word]
theorem passW_ok (k : Nat) : passW W (okX k) = okX (nk W k) := by
  unfold passW nk
  simp only [beq_self_eq_true]
  cases decide ((k : Int) + 1 < (W.length : Int)) <;> rfl
theorem failW_ok {k : Nat} {p : PS s} (h : At s W k p) (c : Int) : failW W c (okX k) = ⟨k, c, p.i⟩ := by
  unfold failW
  simp only [beq_self_eq_true, h.word]
theorem sim_bind {α β : Type} {r : R s α} {o : Option (α × RSt)} {f : α → PS s → R s β} {g : α × RSt → Option (β × RSt)} (h : Sim W r o) (h1 : ∀ a k q, At s W k q → r = .ok a q → Sim W (f a q) (g (a, okX k)))
    (h2 : ∀ a X q c, r = .bad q c → 0 < X.c → ∃ b, g (a, X) = some (b, X)) : Sim W (r.bind f) (o.bind g) := by
  cases r with
  | ok a q =>
    obtain ⟨k, hA, rfl⟩ := h
    rw [Option.bind_some]
    exact h1 a k q hA rfl
  | bad q c =>
    obtain ⟨a, X, rfl, hc, ha⟩ := h
    rw [Option.bind_some]
    obtain ⟨b, hb⟩ := h2 a X q c rfl (by omega)
    exact ⟨b, X, hb, hc, ha⟩
  | out => trivial
theorem sim_take {β : Type} {k : Nat} {p : PS s} (x : ByteArray) {f : Unit → PS s → R s β} {g : RSt → Option (β × RSt)} (hA : At s W k p) (h1 : ∀ k' q, At s W k' q → Sim W (f () q) (g (okX k'))) (h2 : ∀ X, 0 < X.c → ∃ b, g X = some (b, X)) :
    Sim W ((takeF s x p).bind f) (g (wantW W x (okX k))) := by
  unfold takeF wantW
  rw [decide_eq_false (show ¬ (0 : Int) > 0 by decide), wrd_ok hA]
  cases eqW p.w x with
  | true =>
    simp only [R.bind]
    rw [passW_ok]
    exact h1 _ _ (at_next hA)
  | false =>
    simp only [R.bind]
    rw [failW_ok hA]
    obtain ⟨b, hb⟩ := h2 ⟨k, 1, p.i⟩ (show (0 : Int) < 1 by decide)
    exact ⟨b, _, hb, rfl, rfl, by decide⟩
theorem sim_name {β : Type} {k : Nat} {p : PS s} {f : ByteArray → PS s → R s β} {g : ByteArray × RSt → Option (β × RSt)} (hA : At s W k p) (h1 : ∀ m k' q, At s W k' q → Sim W (f m q) (g (m, okX k'))) (h2 : ∀ m X, 0 < X.c → ∃ b, g (m, X) = some (b, X)) :
    Sim W ((nameF s p).bind f) (g (nameW W (okX k))) := by
  unfold nameF nameW
  rw [wrd_ok hA]
  cases isNameF p.w with
  | true =>
    simp only [R.bind]
    rw [passW_ok]
    exact h1 _ _ _ (at_next hA)
  | false =>
    simp only [R.bind]
    rw [failW_ok hA]
    obtain ⟨b, hb⟩ := h2 ⟨#[]⟩ ⟨k, 1, p.i⟩ (show (0 : Int) < 1 by decide)
    exact ⟨b, _, hb, rfl, rfl, by decide⟩
theorem numW_ok {k : Nat} {p : PS s} (hA : At s W k p) : numW W (okX k) = match numV p.w with
    | some n => (n, okX (nk W k))
    | none => (0, ⟨k, 1, p.i⟩) := by
  unfold numW
  rw [wrd_ok hA, num_same p.w hA.dg, passW_ok, failW_ok hA]
  unfold numQ
  cases okDg p.w with
  | false => rfl
  | true =>
    cases decide (valR p.w p.w.size 0 0 > 1099511627776) with
    | true => rfl
    | false => rfl
theorem sim_num {β : Type} {k : Nat} {p : PS s} {f : Int → PS s → R s β} {g : Int × RSt → Option (β × RSt)} (hA : At s W k p) (h1 : ∀ m k' q, At s W k' q → Sim W (f m q) (g (m, okX k'))) (h2 : ∀ m X, 0 < X.c → ∃ b, g (m, X) = some (b, X)) :
    Sim W ((numberF s p).bind f) (g (numW W (okX k))) := by
  unfold numberF
  rw [numW_ok hA]
  cases numV p.w with
  | some n => exact h1 _ _ _ (at_next hA)
  | none =>
    obtain ⟨b, hb⟩ := h2 0 ⟨k, 1, p.i⟩ (show (0 : Int) < 1 by decide)
    exact ⟨b, _, hb, rfl, rfl, by decide⟩
theorem hasW_ok {k : Nat} {p : PS s} (hA : At s W k p) (x : ByteArray) : hasW W x (okX k) = match eqW p.w x with
    | true => (true, okX (nk W k))
    | false => (false, okX k) := by
  unfold hasW
  rw [decide_eq_false (show ¬ (0 : Int) > 0 by decide), wrd_ok hA, passW_ok]
  cases eqW p.w x <;> rfl
theorem sim_ok {α : Type} {k : Nat} {q : PS s} (hA : At s W k q) (a : α) : Sim W (.ok a q) (some (a, okX k)) := ⟨k, hA, rfl⟩
theorem sim_fail {α : Type} {k : Nat} {p : PS s} (hA : At s W k p) (a : α) : Sim W (.bad p 0 : R s α) (some (a, failW W 2 (okX k))) := ⟨a, _, rfl, by rw [failW_ok hA]; rfl, by rw [failW_ok hA], by decide⟩
def ExS (s : ByteArray) (W : List Wd) (n : Nat) : Prop :=
  (∀ m d k p, n ≤ m → 0 ≤ d → d ≤ 12 → At s W k p → Sim W (factorF s n d p) (atomQ W m d (okX k))) ∧ (∀ m d k p, n ≤ m → 0 ≤ d → d ≤ 12 → At s W k p → Sim W (productF s n d p) (timesQ W m d (okX k))) ∧
  (∀ m d e k p, n ≤ m → 0 ≤ d → d ≤ 12 → At s W k p → Sim W (prodL s n d e p) (timesQL W m d e (okX k))) ∧ (∀ m d k p, n ≤ m → 0 ≤ d → d ≤ 12 → At s W k p → Sim W (termF s n d p) (termQ W m d (okX k))) ∧
  (∀ m d e k p, n ≤ m → 0 ≤ d → d ≤ 12 → At s W k p → Sim W (termL s n d e p) (termQL W m d e (okX k)))
theorem factor_pos {n : Nat} {d : Int} {p : PS s} {q : PS s} {c : Nat} (h : factorF s n d p = .bad q c) : 1 ≤ n := by
  cases n with
  | zero => simp [factorF] at h
  | succ n => omega
theorem timesQL_ft {X : RSt} (h : 0 < X.c) (d : Int) (e : Ex) : ∀ n, 1 ≤ n → timesQL W n d e X = some (e, X)
  | 0, hn => absurd hn (by omega)
  | n + 1, _ => by
    have e1 : eqW (⟨#[]⟩ : ByteArray) ⟨#[42]⟩ = false := by kernel_rfl
    have e2 : eqW (⟨#[]⟩ : ByteArray) ⟨#[47]⟩ = false := by kernel_rfl
    have e3 : eqW (⟨#[]⟩ : ByteArray) ⟨#[37]⟩ = false := by kernel_rfl
    simp only [timesQL, wrd_ft h, e1, e2, e3, Bool.or_self]
theorem termQL_ft {X : RSt} (h : 0 < X.c) (d : Int) (e : Ex) : ∀ n, 1 ≤ n → termQL W n d e X = some (e, X)
  | 0, hn => absurd hn (by omega)
  | n + 1, _ => by
    have e1 : eqW (⟨#[]⟩ : ByteArray) ⟨#[43]⟩ = false := by kernel_rfl
    have e2 : eqW (⟨#[]⟩ : ByteArray) ⟨#[45]⟩ = false := by kernel_rfl
    simp only [termQL, wrd_ft h, e1, e2, Bool.or_self]
theorem product_pos {n : Nat} {d : Int} {p : PS s} {q : PS s} {c : Nat} (h : productF s n d p = .bad q c) : 1 ≤ n := by
  cases n with
  | zero => simp [productF] at h
  | succ n => omega
theorem exS_step (n : Nat) (ih : ExS s W n) : ExS s W (n + 1) := by
  obtain ⟨hF, hP, hPL, hT, hTL⟩ := ih
  refine ⟨fun m d k p hm h0 h12 hA => ?_, fun m d k p hm h0 h12 hA => ?_, fun m d e k p hm h0 h12 hA => ?_, fun m d k p hm h0 h12 hA => ?_, fun m d e k p hm h0 h12 hA => ?_⟩
  · obtain ⟨m, rfl⟩ : ∃ m', m = m' + 1 := ⟨m - 1, by omega⟩
    have hw : IntKind.i64.wrap (d + 1) = d + 1 := i64_id (by omega) (by omega)
    have hd : ∀ q : PS s, deepF s d q = match d == 12 with
        | true => .bad q 0
        | false => .ok (d + 1) q := by
      intro q
      unfold deepF
      by_cases e : d = 12
      · rw [decide_eq_true (by omega), beq_iff_eq.2 e]
      rw [decide_eq_false (by omega), beq_eq_false_iff_ne.2 e, hw]
    simp only [factorF, atomQ, hd, wrd_ok hA, hw]
    cases eqW p.w ⟨#[45]⟩ with
    | true =>
      simp only
      cases hd12 : d == 12 with
      | true => exact sim_fail hA _
      | false =>
        have := beq_eq_false_iff_ne.1 hd12
        simp only [R.bind]
        rw [passW_ok]
        refine sim_bind (f := fun e q => .ok (Ex.mk _ 0 _ [e]) q) (g := fun r => some (Ex.mk _ 0 _ [r.1], r.2)) (hF m (d + 1) _ _ (by omega) (by omega) (by omega) (at_next hA)) (fun a k' q hq _ => sim_ok hq _) (fun a X q c _ hX => ⟨_, rfl⟩)
    | false =>
      simp only
      cases eqW p.w ⟨#[40]⟩ with
      | true =>
        simp only
        cases hd12 : d == 12 with
        | true => exact sim_fail hA _
        | false =>
          have := beq_eq_false_iff_ne.1 hd12
          simp only [R.bind]
          rw [passW_ok]
          refine sim_bind (f := fun e q => (takeF s _ q).bind fun _ q => .ok e q) (g := fun r => some (r.1, wantW W _ r.2)) (hT m (d + 1) _ _ (by omega) (by omega) (by omega) (at_next hA)) (fun a k' q hq _ => ?_) (fun a X q c _ hX => ⟨a, by rw [wantW_ft hX]⟩)
          exact sim_take (g := fun X => some (a, X)) _ hq (fun k'' q' hq' => sim_ok hq' _) (fun X _ => ⟨a, rfl⟩)
      | false =>
        simp only
        have hnum : (!eqW p.w ⟨#[]⟩ && isD (byteAt p.w 0)) = (decide ((p.w.size : Int) > 0) && (kindR (byteAt p.w 0) == 2)) := by
          rw [kind2]
          cases he : eqW p.w ⟨#[]⟩ with
          | true =>
            have hz := eqW_size he
            have z : (⟨#[]⟩ : ByteArray).size = 0 := rfl
            rw [decide_eq_false (by omega)]
            rfl
          | false =>
            have : 0 < p.w.size := sz_pos (by unfold eqW at he; rw [he]; rfl)
            rw [decide_eq_true (by omega)]
            rfl
        rw [hnum]
        cases (decide ((p.w.size : Int) > 0) && (kindR (byteAt p.w 0) == 2)) with
        | true => exact sim_num (g := fun r => some (Ex.mk _ r.1 _ [], r.2)) hA (fun m k' q hq => sim_ok hq _) (fun m X _ => ⟨_, rfl⟩)
        | false =>
          simp only
          refine sim_name (g := fun N => match eqW (wrd W N.2) ⟨#[91]⟩ with
            | false => some (Ex.mk _ 0 N.1 [], N.2)
            | true => match d == 12 with
              | true => some (Ex.mk ⟨#[]⟩ 0 ⟨#[]⟩ [], failW W 2 N.2)
              | false => (termQ W m (d + 1) (passW W N.2)).bind fun r => some (Ex.mk _ 0 N.1 [r.1], wantW W _ r.2)) hA (fun mm k' q hq => ?_) (fun mm X hX => ?_)
          · simp only [wrd_ok hq]
            cases eqW q.w ⟨#[91]⟩ with
            | false => exact sim_ok hq _
            | true =>
              simp only
              cases hd12 : d == 12 with
              | true => exact sim_fail hq _
              | false =>
                have := beq_eq_false_iff_ne.1 hd12
                simp only [R.bind]
                rw [passW_ok]
                refine sim_bind (f := fun e q => (takeF s _ q).bind fun _ q => .ok (Ex.mk _ 0 mm [e]) q) (g := fun r => some (Ex.mk _ 0 mm [r.1], wantW W _ r.2)) (hT m (d + 1) _ _ (by omega) (by omega) (by omega) (at_next hq)) (fun a k' q hq _ => ?_) (fun a X q c _ hX => ⟨_, by rw [wantW_ft hX]⟩)
                exact sim_take (g := fun X => some (Ex.mk _ 0 mm [a], X)) _ hq (fun k'' q' hq' => sim_ok hq' _) (fun X _ => ⟨_, rfl⟩)
          have e3 : eqW (⟨#[]⟩ : ByteArray) ⟨#[91]⟩ = false := by kernel_rfl
          simp only [wrd_ft hX, e3]
          exact ⟨_, rfl⟩
  · obtain ⟨m, rfl⟩ : ∃ m', m = m' + 1 := ⟨m - 1, by omega⟩
    simp only [productF, timesQ]
    exact sim_bind (g := fun r => timesQL W m d r.1 r.2) (hF m d k p (by omega) h0 h12 hA) (fun a k' q hq _ => hPL m d a k' q (by omega) h0 h12 hq) (fun a X q c hb hX => ⟨a, timesQL_ft hX d a m (by have := factor_pos hb; omega)⟩)
  · obtain ⟨m, rfl⟩ : ∃ m', m = m' + 1 := ⟨m - 1, by omega⟩
    simp only [prodL, timesQL, wrd_ok hA]
    cases ((eqW p.w ⟨#[42]⟩ || eqW p.w ⟨#[47]⟩) || eqW p.w ⟨#[37]⟩) with
    | true =>
      simp only
      rw [passW_ok]
      exact sim_bind (g := fun r => timesQL W m d (Ex.mk p.w 0 ⟨#[]⟩ [e, r.1]) r.2) (hF m d _ _ (by omega) h0 h12 (at_next hA)) (fun a k' q hq _ => hPL m d _ k' q (by omega) h0 h12 hq) (fun a X q c hb hX => ⟨_, timesQL_ft hX d _ m (by have := factor_pos hb; omega)⟩)
    | false => exact sim_ok hA _
  · obtain ⟨m, rfl⟩ : ∃ m', m = m' + 1 := ⟨m - 1, by omega⟩
    simp only [termF, termQ]
    exact sim_bind (g := fun r => termQL W m d r.1 r.2) (hP m d k p (by omega) h0 h12 hA) (fun a k' q hq _ => hTL m d a k' q (by omega) h0 h12 hq) (fun a X q c hb hX => ⟨a, termQL_ft hX d a m (by have := product_pos hb; omega)⟩)
  obtain ⟨m, rfl⟩ : ∃ m', m = m' + 1 := ⟨m - 1, by omega⟩
  simp only [termL, termQL, wrd_ok hA]
  cases (eqW p.w ⟨#[43]⟩ || eqW p.w ⟨#[45]⟩) with
  | true =>
    simp only
    rw [passW_ok]
    exact sim_bind (g := fun r => termQL W m d (Ex.mk p.w 0 ⟨#[]⟩ [e, r.1]) r.2) (hP m d _ _ (by omega) h0 h12 (at_next hA)) (fun a k' q hq _ => hTL m d _ k' q (by omega) h0 h12 hq) (fun a X q c hb hX => ⟨_, termQL_ft hX d _ m (by have := product_pos hb; omega)⟩)
  | false => exact sim_ok hA _
theorem exS (s : ByteArray) (W : List Wd) : ∀ n, ExS s W n
  | 0 => ⟨fun m d k p _ _ _ _ => by simp only [factorF]; trivial, fun m d k p _ _ _ _ => by simp only [productF]; trivial, fun m d e k p _ _ _ _ => by simp only [prodL]; trivial, fun m d k p _ _ _ _ => by simp only [termF]; trivial, fun m d e k p _ _ _ _ => by simp only [termL]; trivial⟩
  | n + 1 => exS_step n (exS s W n)
end
end Go.Abs
end
section
namespace Go.Abs
open Go Go.Proofs
attribute [local irreducible] aCall AWp Sub Spec
def relQ (W : List Wd) (X : RSt) : RSt := match isRelF (wrd W X) with
  | true => X
  | false => failW W 1 X
theorem relQ_k {W : List Wd} {X : RSt} (h : X.k < W.length) : (relQ W X).k < W.length := by
  unfold relQ
  cases isRelF (wrd W X) with
  | true => exact h
  | false => exact failW_lt h
def andQ (W : List Wd) (n : Nat) : Nat → Bool → List Ts → RSt → Option (List Ts × RSt)
  | 0, _, _, _ => none
  | f + 1, b, row, X => match (!b && (X.c == 0)) with
    | false => some (row, X)
    | true => (termQ W n 1 X).bind fun a => (termQ W n 1 (passW W (relQ W a.2))).bind fun e => andQ W n f (!(hasW W ⟨#[97, 110, 100]⟩ e.2).1) (row ++ [⟨a.1, wrd W a.2, e.1⟩]) (hasW W ⟨#[97, 110, 100]⟩ e.2).2
def condQL (W : List Wd) (n : Nat) : Nat → List (List Ts) → RSt → Option (List (List Ts) × RSt)
  | 0, _, _ => none
  | f + 1, acc, X => match X.c == 0 with
    | false => some (acc, X)
    | true => (andQ W n n (hasW W ⟨#[116, 114, 117, 101]⟩ X).1 [] (hasW W ⟨#[116, 114, 117, 101]⟩ X).2).bind fun q => match (hasW W ⟨#[111, 114]⟩ q.2).1 with
      | true => condQL W n f (acc ++ [q.1]) (hasW W ⟨#[111, 114]⟩ q.2).2
      | false => some (acc ++ [q.1], (hasW W ⟨#[111, 114]⟩ q.2).2)
def condQ (W : List Wd) (n : Nat) (X : RSt) : Option (List (List Ts) × RSt) := match (hasW W ⟨#[102, 97, 108, 115, 101]⟩ X).1 with
  | true => some ([], (hasW W ⟨#[102, 97, 108, 115, 101]⟩ X).2)
  | false => condQL W n n [] (hasW W ⟨#[102, 97, 108, 115, 101]⟩ X).2
theorem andK (W : List Wd) (n : Nat) : ∀ (f : Nat) (b : Bool) (row : List Ts) (X : RSt), X.k < W.length → KP W (andQ W n f b row X)
  | 0, b, row, X, h => fun r hr => by simp [andQ] at hr
  | f + 1, b, row, X, h => by
    simp only [andQ]
    split
    · exact KP.some h
    exact ((exK W n).2.2.2.1 _ _ h).bind fun a ha => ((exK W n).2.2.2.1 _ _ (passW_k (relQ_k ha))).bind fun e he => andK W n f _ _ _ (hasW_k he)
theorem condLK (W : List Wd) (n : Nat) : ∀ (f : Nat) (acc : List (List Ts)) (X : RSt), X.k < W.length → KP W (condQL W n f acc X)
  | 0, acc, X, h => fun r hr => by simp [condQL] at hr
  | f + 1, acc, X, h => by
    simp only [condQL]
    split
    · exact KP.some h
    refine (andK W n n _ _ _ (hasW_k h)).bind fun q hq => ?_
    split
    · exact condLK W n f _ _ (hasW_k hq)
    exact KP.some (hasW_k hq)
theorem condK (W : List Wd) (n : Nat) (X : RSt) (h : X.k < W.length) : KP W (condQ W n X) := by
  unfold condQ
  split
  · exact KP.some (hasW_k h)
  exact condLK W n n _ _ (hasW_k h)
section
variable {G : Glob} {W : List Wd}
theorem condW_spec (hW : WOk W) (n : Nat) (hn : n ≤ 1000000) (X : RSt) (hk : X.k < W.length) (r : List (List Ts) × RSt) (hG : condQ W n X = some r) : Spec Tryz.prog G 199 [.box 0 0] [PB W X] (.ret (encC r.1)) [PB W r.2] := by
  refine spec_of_awp2 TT_ok (N := 68) Tryz.func199 rfl (by rfl) (Nat.le_refl _) rfl ?_
  refine awp_seq ?_; refine rgn fun pan K hp hK => ?_; refine hK _ ?_; clear hK hp K pan; refine awp_norm [0] rfl rfl ?_; refine awp_seq ?_; refine rgn fun pan K hp hK => ?_; refine hK _ ?_; clear hK hp K pan; refine awp_norm [0, 3] rfl rfl ?_; refine awp_seq ?_; refine rgn fun pan K hp hK => ?_; show aCall _ _ _ _ _ _ _
  refine aCall_ret (L := [0]) rfl rfl rfl (hasR_spec X hk hW ⟨#[102, 97, 108, 115, 101]⟩ _ rfl) rfl rfl rfl rfl ?_
  refine hK _ ?_; clear hK hp K pan; refine awp_norm [0, 3, 4] rfl rfl ?_; refine awp_seq ?_; refine awp_seq ?_; refine rgn fun pan K hp hK => ?_; refine hK _ ?_; clear hK hp K pan; refine awp_norm [0, 3, 15] rfl rfl ?_
  refine awp_acc 3 60 1 rfl rfl rfl ?_
  refine awp_norm [0, 3, 15] rfl rfl ?_
  refine awp_cond2 rfl (onB_intro (fun h1 => ?_) (fun h1 => ?_))
  · have eh1 : (hasW W ⟨#[102, 97, 108, 115, 101]⟩ X).1 = true := h1
    refine awp_seq ?_; refine rgn fun pan K hp hK => ?_; refine hK _ ?_; clear hK hp K pan; refine awp_norm [2] rfl rfl ?_; refine awp_ret ?_
    simp only [condQ, eh1, Option.some.injEq] at hG
    subst hG
    exact ⟨_, [0], _, [encC []], rfl, rfl, rfl, rfl, rfl, (by first | exact PWs.refl _ | (refine PWs.cons (PW.d ?_) PWs.nil; repeat (first | exact DW.refl _ | refine DW.agg ?_ | refine DWs.cons ?_ ?_ | exact DWs.nil | exact DW.nil _))), rfl⟩
  have eh1 : (hasW W ⟨#[102, 97, 108, 115, 101]⟩ X).1 = false := h1
  refine awp_skip ?_
  refine awp_cut (fun Q => Q = ⟨[(3, .acc 1)], [PB W r.2, .acc 60 1 (cnd r.1)]⟩) ?_ ?_
  · refine awp_block ?_
    simp only [condQ, eh1] at hG
    refine awp_norm [0, 3] rfl rfl ?_
    refine awp_loop (fun k Y => ∃ (acc : List (List Ts)) (Z : RSt), acc.length + k ≤ n ∧ Z.k < W.length ∧ condQL W n k acc Z = some r ∧ Y = ⟨[(0, .box 0 0), (3, .acc 1)], [PB W Z, .acc 60 1 (cnd acc)]⟩) (n) (⟨[], _, by simp, hasW_k hk, hG, rfl⟩) ?_
    clear hG
    rintro k Y ⟨acc, Z, hkn, hkZ, hG, rfl⟩
    obtain ⟨m, rfl⟩ : ∃ m, k = m + 1 := by
      cases k with
      | zero => simp [condQL] at hG
      | succ m => exact ⟨m, rfl⟩
    refine awp_seq ?_; refine awp_seq ?_; refine rgn fun pan K hp hK => ?_; refine hK _ ?_; clear hK hp K pan; refine awp_norm [0, 3, 21] rfl rfl ?_
    refine awp_cond2 rfl (onB_intro (fun h2 => ?_) (fun h2 => ?_))
    · have eh2 : (Z.c == 0) = true := h2
      refine awp_skip ?_; refine awp_block ?_; refine awp_seq ?_; refine rgn fun pan K hp hK => ?_; refine hK _ ?_; clear hK hp K pan; refine awp_norm [0, 3, 5] rfl rfl ?_
      refine awp_acc 5 288 9 rfl rfl rfl ?_
      refine awp_norm [0, 3, 5] rfl rfl ?_; refine awp_seq ?_; refine rgn fun pan K hp hK => ?_; show aCall _ _ _ _ _ _ _
      refine aCall_ret (L := [0]) rfl rfl rfl (hasR_spec Z hkZ hW ⟨#[116, 114, 117, 101]⟩ _ rfl) rfl rfl rfl rfl ?_
      refine hK _ ?_; clear hK hp K pan; refine awp_norm [0, 3, 5, 6] rfl rfl ?_
      simp only [condQL, eh2] at hG
      obtain ⟨q, hq⟩ : ∃ q, andQ W n n (hasW W ⟨#[116, 114, 117, 101]⟩ Z).1 [] (hasW W ⟨#[116, 114, 117, 101]⟩ Z).2 = some q := by
        cases hq : andQ W n n (hasW W ⟨#[116, 114, 117, 101]⟩ Z).1 [] (hasW W ⟨#[116, 114, 117, 101]⟩ Z).2 with
        | none => simp [hq] at hG
        | some q => exact ⟨q, rfl⟩
      simp only [hq, Option.bind_some] at hG
      have hkq := andK W n n _ _ _ (hasW_k hkZ) q hq
      refine awp_cut (fun Q => Q = ⟨[(0, .box 0 0), (3, .acc 1), (5, .acc 2)], [PB W q.2, .acc 60 1 (cnd acc), .acc 288 9 (tss q.1)]⟩) ?_ ?_
      · refine awp_block ?_
        refine awp_loop (fun k Y => ∃ (b : Bool) (row : List Ts) (Z2 : RSt), row.length + k ≤ n ∧ Z2.k < W.length ∧ andQ W n k b row Z2 = some q ∧ Y = ⟨[(0, .box 0 0), (3, .acc 1), (5, .acc 2), (6, .d (.s (.bool b)))], [PB W Z2, .acc 60 1 (cnd acc), .acc 288 9 (tss row)]⟩) (n) (⟨_, [], _, by simp, hasW_k hkZ, hq, rfl⟩) ?_
        clear hq hG hkq
        rintro k Y ⟨b, row, Z2, hkn2, hkZ2, hG, rfl⟩
        obtain ⟨mm, rfl⟩ : ∃ mm, k = mm + 1 := by
          cases k with
          | zero => simp [andQ] at hG
          | succ m => exact ⟨m, rfl⟩
        refine awp_seq ?_; refine awp_seq ?_; refine rgn fun pan K hp hK => ?_
        refine onB_intro (fun h3 => ?_) (fun h3 => ?_)
        · have eh3 : (!b) = true := h3
          refine hK _ ?_; clear hK hp K pan; refine awp_norm [0, 3, 5, 33] rfl rfl ?_
          refine awp_cond2 rfl (onB_intro (fun h4 => ?_) (fun h4 => ?_))
          · have eh4 : (Z2.c == 0) = true := h4
            refine awp_skip ?_; refine awp_block ?_; refine awp_seq ?_; refine rgn fun pan K hp hK => ?_; show aCall _ _ _ _ _ _ _
            cases hr1 : termQ W n 1 Z2 with
            | none => simp only [andQ, h3, h4, hr1, Option.bind_none, Bool.and_self] at hG <;> cases hG
            | some r1 =>
              obtain ⟨⟨o1, n1, m1, l1⟩, Y1⟩ := r1
              obtain ⟨hk1, sp1⟩ := te_both ((termsW_ok hW n).2.2) hkZ2 hr1
              refine aCall_ret (L := [0]) rfl rfl rfl sp1 rfl rfl rfl rfl ?_
              refine hK _ ?_; clear hK hp K pan; refine awp_norm [0, 3, 5, 7] rfl rfl ?_; refine awp_seq ?_; refine rgn fun pan K hp hK => ?_; show aCall _ _ _ _ _ _ _
              refine aCall_ret (L := [0]) rfl rfl rfl (wordR_spec Y1 hk1 _ rfl) rfl rfl rfl rfl ?_
              refine hK _ ?_; clear hK hp K pan; refine awp_norm [0, 3, 5, 7, 8] rfl rfl ?_; refine awp_seq ?_; refine rgn fun pan K hp hK => ?_; show aCall _ _ _ _ _ _ _
              refine aCall_ret (L := []) rfl rfl rfl (by have := isRelG_spec G (wrd W Y1); rw [relG_eq] at this; exact this) rfl rfl rfl rfl ?_
              refine hK _ ?_; clear hK hp K pan; refine awp_norm [0, 3, 5, 7, 8, 9] rfl rfl ?_
              refine awp_cut (fun Q => Q = ⟨[(0, .box 0 0), (3, .acc 1), (5, .acc 2), (7, .box 3 0), (8, .d (str (wrd W Y1)))], [PB W (relQ W Y1), .acc 60 1 (cnd acc), .acc 288 9 (tss row), .box 143 (cE o1 n1 m1 l1)]⟩) ?_ ?_
              · refine awp_seq ?_; refine rgn fun pan K hp hK => ?_; refine hK _ ?_; clear hK hp K pan; refine awp_norm [0, 3, 5, 7, 8, 41] rfl rfl ?_
                refine awp_cond2 rfl (onB_intro (fun h5 => ?_) (fun h5 => ?_))
                · have eh5 : isRelF (wrd W Y1) = false := (by simpa [eqW] using h5)
                  refine rgn fun pan K hp hK => ?_; show aCall _ _ _ _ _ _ _
                  refine aCall_ret (L := [0]) rfl rfl rfl (failR_spec Y1 hk1 1 _ rfl) rfl rfl rfl rfl ?_
                  refine hK _ ?_; clear hK hp K pan
                  have er : relQ W Y1 = failW W 1 Y1 := by unfold relQ; rw [eh5]
                  rw [er]
                  exact ⟨_, sub_norm (slots := [0, 3, 5, 7, 8]) rfl rfl, rfl⟩
                have eh5 : isRelF (wrd W Y1) = true := (by simpa [eqW] using h5)
                refine awp_skip ?_
                have er : relQ W Y1 = Y1 := by unfold relQ; rw [eh5]
                rw [er]
                exact ⟨_, sub_norm (slots := [0, 3, 5, 7, 8]) rfl rfl, rfl⟩
              rintro Q rfl
              refine awp_seq ?_; refine rgn fun pan K hp hK => ?_; show aCall _ _ _ _ _ _ _
              refine aCall_ret (L := [0]) rfl rfl rfl (passR_spec (relQ W Y1) (relQ_k hk1) hW _ rfl) rfl rfl rfl rfl ?_
              refine hK _ ?_; clear hK hp K pan; refine awp_norm [0, 3, 5, 7, 8] rfl rfl ?_; refine awp_seq ?_; refine rgn fun pan K hp hK => ?_; show aCall _ _ _ _ _ _ _
              cases hr2 : termQ W n 1 (passW W (relQ W Y1)) with
              | none => simp only [andQ, h3, h4, hr1, hr2, Option.bind_none, Option.bind_some, Bool.and_self] at hG <;> cases hG
              | some r2 =>
                obtain ⟨⟨o2, n2, m2, l2⟩, Y2⟩ := r2
                obtain ⟨hk2, sp2⟩ := te_both ((termsW_ok hW n).2.2) (passW_k (relQ_k hk1)) hr2
                refine aCall_ret (L := [0]) rfl rfl rfl sp2 rfl rfl rfl rfl ?_
                refine hK _ ?_; clear hK hp K pan; refine awp_norm [0, 3, 5, 7, 8, 10] rfl rfl ?_; refine awp_seq ?_; refine rgn fun pan K hp hK => ?_
                refine And.intro (And.intro ((by simp only [tss_length, chunk_length]; omega)) ((by simp only [tss_length, chunk_length, maxLen]; omega))) ?_
                refine hK _ ?_; clear hK hp K pan; refine awp_norm [0, 3, 5] rfl rfl ?_; refine awp_seq ?_; refine rgn fun pan K hp hK => ?_; show aCall _ _ _ _ _ _ _
                refine aCall_ret (L := [0]) rfl rfl rfl (hasR_spec Y2 hk2 hW ⟨#[97, 110, 100]⟩ _ rfl) rfl rfl rfl rfl ?_
                refine hK _ ?_; clear hK hp K pan; refine awp_norm [0, 3, 5, 11] rfl rfl ?_; refine rgn fun pan K hp hK => ?_; refine hK _ ?_; clear hK hp K pan
                simp only [andQ, eh3, eh4, hr1, hr2, Option.bind_some, Bool.and_self] at hG
                exact ⟨mm, Nat.lt_succ_self mm, _, sub_pick (L := [0, 1, 2]) (slots := [0, 3, 5, 6]) rfl rfl rfl rfl rfl, _, row ++ [⟨.mk o1 n1 m1 l1, wrd W Y1, .mk o2 n2 m2 l2⟩], _, by simp only [List.length_append, List.length_cons, List.length_nil]; omega, hasW_k hk2, hG, by rw [← tss_snoc]; rfl⟩
          have eh4 : (Z2.c == 0) = false := h4
          refine awp_exit ?_
          simp only [andQ, eh3, eh4, Bool.and_false, Option.some.injEq] at hG
          subst hG
          exact ⟨_, sub_norm (slots := [0, 3, 5]) rfl rfl, rfl⟩
        have eh3 : (!b) = false := h3
        refine hK _ ?_; clear hK hp K pan; refine awp_norm [0, 3, 5, 33] rfl rfl ?_; refine awp_cond rfl ?_
        refine awp_exit ?_
        simp only [andQ, eh3, Bool.false_and, Option.some.injEq] at hG
        subst hG
        exact ⟨_, sub_norm (slots := [0, 3, 5]) rfl rfl, rfl⟩
      rintro Q rfl
      refine awp_seq ?_; refine rgn fun pan K hp hK => ?_
      refine And.intro (And.intro ((by simp only [cnd_length, chunk_length]; omega)) ((by simp only [cnd_length, chunk_length, maxLen]; omega))) ?_
      refine hK _ ?_; clear hK hp K pan; refine awp_norm [0, 3] rfl rfl ?_; refine awp_seq ?_; refine rgn fun pan K hp hK => ?_; show aCall _ _ _ _ _ _ _
      refine aCall_ret (L := [0]) rfl rfl rfl (hasR_spec q.2 hkq hW ⟨#[111, 114]⟩ _ rfl) rfl rfl rfl rfl ?_
      refine hK _ ?_; clear hK hp K pan; refine awp_norm [0, 3, 12] rfl rfl ?_; refine awp_seq ?_; refine rgn fun pan K hp hK => ?_; refine hK _ ?_; clear hK hp K pan; refine awp_norm [0, 3, 66] rfl rfl ?_
      refine awp_cond2 rfl (onB_intro (fun h3 => ?_) (fun h3 => ?_))
      · have eh3 : (hasW W ⟨#[111, 114]⟩ q.2).1 = false := (by simpa [eqW] using h3)
        refine awp_exit ?_
        simp only [eh3, Option.some.injEq] at hG
        subst hG
        exact ⟨_, sub_pick (L := [0, 1]) (slots := [3]) rfl rfl rfl rfl rfl, by rw [← cnd_snoc]; rfl⟩
      have eh3 : (hasW W ⟨#[111, 114]⟩ q.2).1 = true := (by simpa [eqW] using h3)
      refine awp_skip ?_
      simp only [eh3] at hG
      exact ⟨m, Nat.lt_succ_self m, _, sub_pick (L := [0, 1]) (slots := [0, 3]) rfl rfl rfl rfl rfl, acc ++ [q.1], _, by simp only [List.length_append, List.length_cons, List.length_nil]; omega, hasW_k hkq, hG, by rw [← cnd_snoc]; rfl⟩
    have eh2 : (Z.c == 0) = false := h2
    refine awp_exit ?_
    simp only [condQL, eh2, Option.some.injEq] at hG
    subst hG
    exact ⟨_, sub_pick (L := [0, 1]) (slots := [3]) rfl rfl rfl rfl rfl, rfl⟩
  rintro Q rfl
  refine awp_seq ?_; refine rgn fun pan K hp hK => ?_; refine hK _ ?_; clear hK hp K pan; refine awp_norm [2] rfl rfl ?_; refine awp_ret ?_
  exact ⟨_, [0], _, [encC _], rfl, rfl, rfl, rfl, rfl, PWs.refl _, rfl⟩
end
end Go.Abs
end
section
namespace Go.Abs
open Go Go.Proofs
attribute [local irreducible] aCall AWp Sub Spec
def sepQ (W : List Wd) (acc : List Ex) (X : RSt) : RSt := match decide ((acc.length : Int) > 0) with
  | true => wantW W ⟨#[44]⟩ X
  | false => X
theorem sepQ_k {W : List Wd} {acc : List Ex} {X : RSt} (h : X.k < W.length) : (sepQ W acc X).k < W.length := by
  unfold sepQ
  cases decide ((acc.length : Int) > 0) with
  | true => exact wantW_k h
  | false => exact h
def argsQ (W : List Wd) (n : Nat) : Nat → List Ex → RSt → Option (List Ex × RSt)
  | 0, _, _ => none
  | f + 1, acc, X => match ((X.c == 0) && !eqW (wrd W X) ⟨#[41]⟩) with
    | false => some (acc, X)
    | true => (termQ W n 1 (sepQ W acc X)).bind fun e => argsQ W n f (acc ++ [e.1]) e.2
mutual
def stmtsQ (W : List Wd) : Nat → Int → List Sm → RSt → Option (List Sm × RSt)
  | 0, _, _, _ => none
  | n + 1, d, acc, X => match (((X.c == 0) && !eqW (wrd W X) ⟨#[125]⟩) && !eqW (wrd W X) ⟨#[114, 101, 116, 117, 114, 110]⟩) with
    | false => some (acc, X)
    | true => match decide (d > 12) with
      | true => some ([], failW W 2 X)
      | false => (stmtQ W n d X).bind fun r => stmtsQ W n d (acc ++ [r.1]) r.2
def blkQ (W : List Wd) : Nat → Int → RSt → Option (List Sm × RSt)
  | 0, _, _ => none
  | n + 1, d, X => (stmtsQ W n d [] (wantW W ⟨#[123]⟩ X)).bind fun r => some (r.1, wantW W ⟨#[125]⟩ r.2)
def stmtQ (W : List Wd) : Nat → Int → RSt → Option (Sm × RSt)
  | 0, _, _ => none
  | n + 1, d, X => match (eqW (wrd W X) ⟨#[105, 102]⟩ || eqW (wrd W X) ⟨#[119, 104, 105, 108, 101]⟩) with
    | true => (condQ W n (passW W X)).bind fun c => (blkQ W n (IntKind.i64.wrap (d + 1)) c.2).bind fun b => match eqW (wrd W X) ⟨#[105, 102]⟩ with
      | true => match (hasW W ⟨#[101, 108, 115, 101]⟩ b.2).1 with
        | true => (blkQ W n (IntKind.i64.wrap (d + 1)) (hasW W ⟨#[101, 108, 115, 101]⟩ b.2).2).bind fun e => some (.mk (wrd W X) ⟨#[]⟩ ⟨#[]⟩ [] c.1 b.1 e.1, e.2)
        | false => some (.mk (wrd W X) ⟨#[]⟩ ⟨#[]⟩ [] c.1 b.1 [], (hasW W ⟨#[101, 108, 115, 101]⟩ b.2).2)
      | false => some (.mk (wrd W X) ⟨#[]⟩ ⟨#[]⟩ [] c.1 b.1 [], b.2)
    | false => match (eqW (wrd W X) ⟨#[97, 115, 115, 101, 114, 116]⟩ || eqW (wrd W X) ⟨#[97, 115, 115, 117, 109, 101]⟩) with
      | true => (condQ W n (passW W X)).bind fun c => some (.mk (wrd W X) ⟨#[]⟩ ⟨#[]⟩ [] c.1 [] [], wantW W ⟨#[59]⟩ c.2)
      | false => match eqW (wrd W X) ⟨#[114, 101, 97, 100]⟩ with
        | true => some (.mk (wrd W X) (nameW W (passW W X)).1 ⟨#[]⟩ [] [] [] [], wantW W ⟨#[59]⟩ (nameW W (passW W X)).2)
        | false => match (hasW W ⟨#[91]⟩ (nameW W X).2).1 with
          | true => (termQ W n 1 (hasW W ⟨#[91]⟩ (nameW W X).2).2).bind fun i => (termQ W n 1 (wantW W ⟨#[61]⟩ (wantW W ⟨#[93]⟩ i.2))).bind fun e => some (.mk ⟨#[112, 117, 116]⟩ (nameW W X).1 ⟨#[]⟩ [i.1, e.1] [] [] [], wantW W ⟨#[59]⟩ e.2)
          | false => match (hasW W ⟨#[99, 97, 108, 108]⟩ (wantW W ⟨#[61]⟩ (hasW W ⟨#[91]⟩ (nameW W X).2).2)).1 with
            | false => (termQ W n 1 (hasW W ⟨#[99, 97, 108, 108]⟩ (wantW W ⟨#[61]⟩ (hasW W ⟨#[91]⟩ (nameW W X).2).2)).2).bind fun e => some (.mk ⟨#[115, 101, 116]⟩ (nameW W X).1 ⟨#[]⟩ [e.1] [] [] [], wantW W ⟨#[59]⟩ e.2)
            | true => (argsQ W n n [] (wantW W ⟨#[40]⟩ (nameW W (hasW W ⟨#[99, 97, 108, 108]⟩ (wantW W ⟨#[61]⟩ (hasW W ⟨#[91]⟩ (nameW W X).2).2)).2).2)).bind fun l => some (.mk ⟨#[99, 97, 108, 108]⟩ (nameW W X).1 (nameW W (hasW W ⟨#[99, 97, 108, 108]⟩ (wantW W ⟨#[61]⟩ (hasW W ⟨#[91]⟩ (nameW W X).2).2)).2).1 l.1 [] [] [], wantW W ⟨#[59]⟩ (wantW W ⟨#[41]⟩ l.2))
end
theorem argK (W : List Wd) (n : Nat) : ∀ (f : Nat) (acc : List Ex) (X : RSt), X.k < W.length → KP W (argsQ W n f acc X)
  | 0, acc, X, h => fun r hr => by simp [argsQ] at hr
  | f + 1, acc, X, h => by
    simp only [argsQ]
    split
    · exact KP.some h
    exact ((exK W n).2.2.2.1 _ _ (sepQ_k h)).bind fun e he => argK W n f _ _ he
theorem smK (W : List Wd) : ∀ n, (∀ d acc X, X.k < W.length → KP W (stmtsQ W n d acc X)) ∧ (∀ d X, X.k < W.length → KP W (blkQ W n d X)) ∧ (∀ d X, X.k < W.length → KP W (stmtQ W n d X))
  | 0 => ⟨fun d acc X h r hr => by simp [stmtsQ] at hr, fun d X h r hr => by simp [blkQ] at hr, fun d X h r hr => by simp [stmtQ] at hr⟩
  | n + 1 => by
    obtain ⟨h1, h2, h3⟩ := smK W n
    have h4 := (exK W n).2.2.2.1
    refine ⟨fun d acc X h => ?_, fun d X h => ?_, fun d X h => ?_⟩
    · simp only [stmtsQ]
      split
      · exact KP.some h
      split
      · exact KP.some (failW_lt h)
      exact (h3 _ _ h).bind fun r hr => h1 _ _ _ hr
    · simp only [blkQ]
      exact (h1 _ _ _ (wantW_k h)).bind fun r hr => KP.some (wantW_k hr)
    simp only [stmtQ]
    split
    · refine (condK W n _ (passW_k h)).bind fun c hc => (h2 _ _ hc).bind fun b hb => ?_
      split
      · split
        · exact (h2 _ _ (hasW_k hb)).bind fun e he => KP.some he
        exact KP.some (hasW_k hb)
      exact KP.some hb
    split
    · exact (condK W n _ (passW_k h)).bind fun c hc => KP.some (wantW_k hc)
    split
    · exact KP.some (wantW_k (nameW_k (passW_k h)))
    split
    · exact (h4 _ _ (hasW_k (nameW_k h))).bind fun i hi => (h4 _ _ (wantW_k (wantW_k hi))).bind fun e he => KP.some (wantW_k he)
    split
    · exact (h4 _ _ (hasW_k (wantW_k (hasW_k (nameW_k h))))).bind fun e he => KP.some (wantW_k he)
    exact (argK W n _ _ _ (wantW_k (nameW_k (hasW_k (wantW_k (hasW_k (nameW_k h))))))).bind fun l hl => KP.some (wantW_k (wantW_k hl))
section
variable {G : Glob} {W : List Wd}
def StQ (G : Glob) (W : List Wd) (n : Nat) : Prop := ∀ (d : Int) (X : RSt), X.k < W.length → ∀ r, stmtQ W n d X = some r → Spec Tryz.prog G 144 [.box 0 0, .d (num d)] [PB W X] (.ret (encM r.1)) [PB W r.2]
def BlQ (G : Glob) (W : List Wd) (n : Nat) : Prop := ∀ (d : Int) (X : RSt), X.k < W.length → ∀ r, blkQ W n d X = some r → Spec Tryz.prog G 65 [.box 0 0, .d (num d)] [PB W X] (.ret (encL r.1)) [PB W r.2]
def SsQ (G : Glob) (W : List Wd) (n : Nat) : Prop := ∀ (d : Int) (X : RSt), X.k < W.length → ∀ r, stmtsQ W n d [] X = some r → Spec Tryz.prog G 63 [.box 0 0, .d (num d)] [PB W X] (.ret (encL r.1)) [PB W r.2]
theorem st_both {n : Nat} (h : StQ G W n) {d : Int} {X : RSt} (hk : X.k < W.length) {r : Sm × RSt} (e : stmtQ W n d X = some r) : r.2.k < W.length ∧ Spec Tryz.prog G 144 [.box 0 0, .d (num d)] [PB W X] (.ret (encM r.1)) [PB W r.2] := ⟨(smK W n).2.2 d X hk r e, h d X hk r e⟩
theorem bl_both {n : Nat} (h : BlQ G W n) {d : Int} {X : RSt} (hk : X.k < W.length) {r : List Sm × RSt} (e : blkQ W n d X = some r) : r.2.k < W.length ∧ Spec Tryz.prog G 65 [.box 0 0, .d (num d)] [PB W X] (.ret (encL r.1)) [PB W r.2] := ⟨(smK W n).2.1 d X hk r e, h d X hk r e⟩
theorem ss_both {n : Nat} (h : SsQ G W n) {d : Int} {X : RSt} (hk : X.k < W.length) {r : List Sm × RSt} (e : stmtsQ W n d [] X = some r) : r.2.k < W.length ∧ Spec Tryz.prog G 63 [.box 0 0, .d (num d)] [PB W X] (.ret (encL r.1)) [PB W r.2] := ⟨(smK W n).1 d [] X hk r e, h d X hk r e⟩
theorem cond_both (hW : WOk W) {n : Nat} (hn : n ≤ 1000000) {X : RSt} (hk : X.k < W.length) {r : List (List Ts) × RSt} (e : condQ W n X = some r) : r.2.k < W.length ∧ Spec Tryz.prog G 199 [.box 0 0] [PB W X] (.ret (encC r.1)) [PB W r.2] := ⟨condK W n X hk r e, condW_spec hW n hn X hk r e⟩
theorem blQ_step (hW : WOk W) (n : Nat) (ih : ∀ m, m ≤ n → SsQ G W m) : BlQ G W (n + 1) := by
  intro d X hk r hG
  refine spec_of_awp2 TT_ok (N := 14) Tryz.func65 rfl (by rfl) (Nat.le_refl _) rfl ?_
  refine awp_seq ?_; refine rgn fun pan K hp hK => ?_; refine hK _ ?_; clear hK hp K pan; refine awp_norm [0, 1] rfl rfl ?_; refine awp_seq ?_; refine rgn fun pan K hp hK => ?_; show aCall _ _ _ _ _ _ _
  refine aCall_ret (L := [0]) rfl rfl rfl (wantR_spec X hk hW ⟨#[123]⟩ _ rfl) rfl rfl rfl rfl ?_
  refine hK _ ?_; clear hK hp K pan; refine awp_norm [0, 1] rfl rfl ?_; refine awp_seq ?_; refine rgn fun pan K hp hK => ?_; show aCall _ _ _ _ _ _ _
  cases hr1 : stmtsQ W n d [] (wantW W ⟨#[123]⟩ X) with
  | none => simp only [blkQ, hr1, Option.bind_none] at hG <;> cases hG
  | some r1 =>
    obtain ⟨l1, Y1⟩ := r1
    obtain ⟨hk1, sp1⟩ := ss_both (ih n (Nat.le_refl n)) (wantW_k hk) hr1
    refine aCall_ret (L := [0]) rfl rfl rfl sp1 rfl rfl rfl rfl ?_
    refine hK _ ?_; clear hK hp K pan; refine awp_norm [0, 5] rfl rfl ?_; refine awp_seq ?_; refine rgn fun pan K hp hK => ?_; show aCall _ _ _ _ _ _ _
    refine aCall_ret (L := [0]) rfl rfl rfl (wantR_spec Y1 hk1 hW ⟨#[125]⟩ _ rfl) rfl rfl rfl rfl ?_
    refine hK _ ?_; clear hK hp K pan; refine awp_norm [5] rfl rfl ?_; refine awp_seq ?_; refine rgn fun pan K hp hK => ?_; refine hK _ ?_; clear hK hp K pan; refine awp_norm [4] rfl rfl ?_; refine awp_ret ?_
    simp only [blkQ, hr1, Option.bind_some, Option.some.injEq] at hG
    subst hG
    exact ⟨_, [0], _, [encL _], rfl, rfl, rfl, rfl, rfl, PWs.refl _, rfl⟩
theorem ssQ_step (hW : WOk W) (n : Nat) (hn : n ≤ 1000000) (ih : ∀ m, m ≤ n → StQ G W m) : SsQ G W (n + 1) := by
  intro d X hk r hG
  refine spec_of_awp2 TT_ok (N := 35) Tryz.func63 rfl (by rfl) (Nat.le_refl _) rfl ?_
  refine awp_seq ?_; refine rgn fun pan K hp hK => ?_; refine hK _ ?_; clear hK hp K pan; refine awp_norm [0, 1] rfl rfl ?_; refine awp_seq ?_; refine rgn fun pan K hp hK => ?_; refine hK _ ?_; clear hK hp K pan; refine awp_norm [0, 1, 5] rfl rfl ?_
  refine awp_acc 5 228 7 rfl rfl rfl ?_
  refine awp_norm [0, 1, 5] rfl rfl ?_; refine awp_seq ?_; refine awp_block ?_
  refine awp_loop (fun k Y => ∃ (acc : List Sm) (Z : RSt), acc.length + k ≤ n + 1 ∧ Z.k < W.length ∧ stmtsQ W k d acc Z = some r ∧ Y = ⟨[(0, .box 0 0), (1, .d (num d)), (5, .acc 1)], [PB W Z, .acc 228 7 (sms acc)]⟩) (n + 1) (⟨[], _, by simp, hk, hG, rfl⟩) ?_
  clear hG
  rintro k Y ⟨acc, Z, hkn, hkZ, hG, rfl⟩
  obtain ⟨m, rfl⟩ : ∃ m, k = m + 1 := by
    cases k with
    | zero => simp [stmtsQ] at hG
    | succ m => exact ⟨m, rfl⟩
  refine awp_seq ?_; refine awp_seq ?_; refine rgn fun pan K hp hK => ?_
  refine onB_intro (fun h1 => ?_) (fun h1 => ?_)
  · have eh1 : (Z.c == 0) = true := h1
    show aCall _ _ _ _ _ _ _
    refine aCall_ret (L := [0]) rfl rfl rfl (wordR_spec Z hkZ _ rfl) rfl rfl rfl rfl ?_
    refine onB_intro (fun h2 => ?_) (fun h2 => ?_)
    · have eh2 : eqW (wrd W Z) ⟨#[125]⟩ = false := (by simpa [eqW] using h2)
      show aCall _ _ _ _ _ _ _
      refine aCall_ret (L := [0]) rfl rfl rfl (wordR_spec Z hkZ _ rfl) rfl rfl rfl rfl ?_
      refine hK _ ?_; clear hK hp K pan; refine awp_norm [0, 1, 5, 22] rfl rfl ?_
      refine awp_cond2 rfl (onB_intro (fun h3 => ?_) (fun h3 => ?_))
      · have eh3 : eqW (wrd W Z) ⟨#[114, 101, 116, 117, 114, 110]⟩ = false := (by simpa [eqW] using h3)
        refine awp_skip ?_; refine awp_block ?_; refine awp_seq ?_; refine awp_seq ?_; refine rgn fun pan K hp hK => ?_; refine hK _ ?_; clear hK hp K pan; refine awp_norm [0, 1, 5, 24] rfl rfl ?_
        refine awp_cond2 rfl (onB_intro (fun h4 => ?_) (fun h4 => ?_))
        · have eh4 : decide (d > 12) = true := h4
          refine awp_seq ?_; refine rgn fun pan K hp hK => ?_; show aCall _ _ _ _ _ _ _
          refine aCall_ret (L := [0]) rfl rfl rfl (failR_spec Z hkZ 2 _ rfl) rfl rfl rfl rfl ?_
          refine hK _ ?_; clear hK hp K pan; refine awp_norm [] rfl rfl ?_; refine awp_seq ?_; refine rgn fun pan K hp hK => ?_; refine hK _ ?_; clear hK hp K pan; refine awp_norm [4] rfl rfl ?_; refine awp_ret ?_
          simp only [stmtsQ, eh1, eh2, eh3, eh4, Bool.not_false, Bool.and_self, Option.some.injEq] at hG
          subst hG
          exact ⟨_, [0], _, [encL _], rfl, rfl, rfl, rfl, rfl, (by first | exact PWs.refl _ | (refine PWs.cons (PW.d ?_) PWs.nil; repeat (first | exact DW.refl _ | refine DW.agg ?_ | refine DWs.cons ?_ ?_ | exact DWs.nil | exact DW.nil _))), rfl⟩
        have eh4 : decide (d > 12) = false := h4
        refine awp_skip ?_; refine awp_seq ?_; refine rgn fun pan K hp hK => ?_; show aCall _ _ _ _ _ _ _
        cases hr1 : stmtQ W m d Z with
        | none => simp only [stmtsQ, h1, eh2, eh3, h4, hr1, Option.bind_none, Bool.not_false, Bool.and_self] at hG <;> cases hG
        | some r1 =>
          obtain ⟨⟨kd1, nm1, pr1, ar1, cn1, bd1, el1⟩, Y1⟩ := r1
          obtain ⟨hk1, sp1⟩ := st_both (ih m (by omega)) hkZ hr1
          refine aCall_ret (L := [0]) rfl rfl rfl sp1 rfl rfl rfl rfl ?_
          refine hK _ ?_; clear hK hp K pan; refine awp_norm [0, 1, 5, 6] rfl rfl ?_; refine rgn fun pan K hp hK => ?_
          refine And.intro (And.intro ((by simp only [sms_length, chunk_length]; omega)) ((by simp only [sms_length, chunk_length, maxLen]; omega))) ?_
          refine hK _ ?_; clear hK hp K pan
          simp only [stmtsQ, eh1, eh2, eh3, eh4, hr1, Option.bind_some, Bool.not_false, Bool.and_self] at hG
          exact ⟨m, Nat.lt_succ_self m, _, sub_pick (L := [0, 1]) (slots := [0, 1, 5]) rfl rfl rfl rfl rfl, acc ++ [.mk kd1 nm1 pr1 ar1 cn1 bd1 el1], _, by simp only [List.length_append, List.length_cons, List.length_nil]; omega, hk1, hG, by rw [← sms_snoc]; rfl⟩
      have eh3 : eqW (wrd W Z) ⟨#[114, 101, 116, 117, 114, 110]⟩ = true := (by simpa [eqW] using h3)
      refine awp_exit ?_
      refine awp_norm [5] rfl rfl ?_; refine awp_seq ?_; refine rgn fun pan K hp hK => ?_; refine hK _ ?_; clear hK hp K pan; refine awp_norm [4] rfl rfl ?_; refine awp_ret ?_
      simp only [stmtsQ, eh1, eh2, eh3, Bool.not_true, Bool.not_false, Bool.and_false, Bool.and_self, Option.some.injEq] at hG
      subst hG
      exact ⟨_, [0], _, [encL _], rfl, rfl, rfl, rfl, rfl, (by first | exact PWs.refl _ | (refine PWs.cons (PW.d ?_) PWs.nil; repeat (first | exact DW.refl _ | refine DW.agg ?_ | refine DWs.cons ?_ ?_ | exact DWs.nil | exact DW.nil _))), rfl⟩
    have eh2 : eqW (wrd W Z) ⟨#[125]⟩ = true := (by simpa [eqW] using h2)
    refine hK _ ?_; clear hK hp K pan; refine awp_norm [0, 1, 5, 22] rfl rfl ?_; refine awp_cond rfl ?_
    refine awp_exit ?_
    refine awp_norm [5] rfl rfl ?_; refine awp_seq ?_; refine rgn fun pan K hp hK => ?_; refine hK _ ?_; clear hK hp K pan; refine awp_norm [4] rfl rfl ?_; refine awp_ret ?_
    simp only [stmtsQ, eh1, eh2, Bool.not_true, Bool.false_and, Bool.and_false, Option.some.injEq] at hG
    subst hG
    exact ⟨_, [0], _, [encL _], rfl, rfl, rfl, rfl, rfl, (by first | exact PWs.refl _ | (refine PWs.cons (PW.d ?_) PWs.nil; repeat (first | exact DW.refl _ | refine DW.agg ?_ | refine DWs.cons ?_ ?_ | exact DWs.nil | exact DW.nil _))), rfl⟩
  have eh1 : (Z.c == 0) = false := h1
  refine hK _ ?_; clear hK hp K pan; refine awp_norm [0, 1, 5, 22] rfl rfl ?_; refine awp_cond rfl ?_
  refine awp_exit ?_
  refine awp_norm [5] rfl rfl ?_; refine awp_seq ?_; refine rgn fun pan K hp hK => ?_; refine hK _ ?_; clear hK hp K pan; refine awp_norm [4] rfl rfl ?_; refine awp_ret ?_
  simp only [stmtsQ, eh1, Bool.false_and, Option.some.injEq] at hG
  subst hG
  exact ⟨_, [0], _, [encL _], rfl, rfl, rfl, rfl, rfl, (by first | exact PWs.refl _ | (refine PWs.cons (PW.d ?_) PWs.nil; repeat (first | exact DW.refl _ | refine DW.agg ?_ | refine DWs.cons ?_ ?_ | exact DWs.nil | exact DW.nil _))), rfl⟩
end
end Go.Abs
end
