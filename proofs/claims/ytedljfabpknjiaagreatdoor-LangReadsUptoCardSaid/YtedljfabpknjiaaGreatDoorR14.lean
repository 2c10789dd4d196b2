/- Texts of this proof, joined: AbsMG, AbsMH, AbsNG, AbsNH. -/
import Derived.Test.YtedljfabpknjiaaGreatDoorR13
import Derived.Test.YtedljfabpknjiaaGreatDoorR8
section
namespace Go.Abs
open Go Go.Proofs
attribute [local irreducible] aCall AWp Sub Spec
section
variable {G : Glob} {W : List Wd}
theorem stQ_if (hW : WOk W) (n : Nat) (hn : n ≤ 1000000) (ihB : ∀ m, m ≤ n → BlQ G W m) (d : Int) (X : RSt) (hk : X.k < W.length) (r : Sm × RSt) (hG : stmtQ W (n + 1) d X = some r) (hIF : eqW (wrd W X) ⟨#[105, 102]⟩ = true) : Spec Tryz.prog G 144 [.box 0 0, .d (num d)] [PB W X] (.ret (encM r.1)) [PB W r.2] := by
  refine spec_of_awp2 TT_ok (N := 137) Tryz.func144 rfl (by rfl) (Nat.le_refl _) rfl ?_
  refine awp_seq ?_; refine rgn fun pan K hp hK => ?_; refine hK _ ?_; clear hK hp K pan; refine awp_norm [0, 1, 4] rfl rfl ?_; refine awp_seq ?_; refine rgn fun pan K hp hK => ?_; show aCall _ _ _ _ _ _ _
  refine aCall_ret (L := [0]) rfl rfl rfl (wordR_spec X hk _ rfl) rfl rfl rfl rfl ?_
  refine hK _ ?_; clear hK hp K pan; refine awp_norm [0, 1, 4, 5] rfl rfl ?_; refine awp_seq ?_; refine awp_seq ?_; refine rgn fun pan K hp hK => ?_; refine hK _ ?_; clear hK hp K pan; refine awp_norm [0, 1, 4, 5, 19] rfl rfl ?_; refine awp_block ?_; refine awp_seq ?_; refine awp_seq ?_; refine rgn fun pan K hp hK => ?_; refine hK _ ?_; clear hK hp K pan; refine awp_norm [0, 1, 4, 5, 19, 92] rfl rfl ?_
  refine awp_cond2 rfl (onB_intro (fun h1 => ?_) (fun h1 => ?_))
  · refine awp_skip ?_; refine awp_cond rfl ?_; refine awp_seq ?_; refine rgn fun pan K hp hK => ?_; show aCall _ _ _ _ _ _ _
    refine aCall_ret (L := [0]) rfl rfl rfl (passR_spec X hk hW _ rfl) rfl rfl rfl rfl ?_
    refine hK _ ?_; clear hK hp K pan; refine awp_norm [0, 1, 4, 5] rfl rfl ?_; refine awp_seq ?_; refine rgn fun pan K hp hK => ?_; show aCall _ _ _ _ _ _ _
    cases hr1 : condQ W n (passW W X) with
    | none => simp only [stmtQ, hIF, hr1, Option.bind_none, Bool.true_or] at hG <;> cases hG
    | some r1 =>
      obtain ⟨c1, Y1⟩ := r1
      obtain ⟨hk1, sp1⟩ := cond_both hW hn (passW_k hk) hr1
      refine aCall_ret (L := [0]) rfl rfl rfl sp1 rfl rfl rfl rfl ?_
      refine hK _ ?_; clear hK hp K pan; refine awp_norm [0, 1, 4, 5] rfl rfl ?_; refine awp_seq ?_; refine rgn fun pan K hp hK => ?_; show aCall _ _ _ _ _ _ _
      cases hr2 : blkQ W n (IntKind.i64.wrap (d + 1)) Y1 with
      | none => simp only [stmtQ, hIF, hr1, hr2, Option.bind_none, Option.bind_some, Bool.true_or] at hG <;> cases hG
      | some r2 =>
        obtain ⟨b2, Y2⟩ := r2
        obtain ⟨hk2, sp2⟩ := bl_both (ihB n (Nat.le_refl n)) hk1 hr2
        refine aCall_ret (L := [0]) rfl rfl rfl sp2 rfl rfl rfl rfl ?_
        refine hK _ ?_; clear hK hp K pan; refine awp_norm [0, 1, 4, 5] rfl rfl ?_; refine awp_seq ?_; refine rgn fun pan K hp hK => ?_
        refine onB_intro (fun h2 => ?_) (fun h2 => ?_)
        · show aCall _ _ _ _ _ _ _
          refine aCall_ret (L := [0]) rfl rfl rfl (hasR_spec Y2 hk2 hW ⟨#[101, 108, 115, 101]⟩ _ rfl) rfl rfl rfl rfl ?_
          refine hK _ ?_; clear hK hp K pan; refine awp_norm [0, 1, 4, 5, 6] rfl rfl ?_; refine awp_seq ?_; refine awp_seq ?_; refine rgn fun pan K hp hK => ?_; refine hK _ ?_; clear hK hp K pan; refine awp_norm [0, 1, 4, 5, 112] rfl rfl ?_
          refine awp_cond2 rfl (onB_intro (fun h3 => ?_) (fun h3 => ?_))
          · have eh3 : (hasW W ⟨#[101, 108, 115, 101]⟩ Y2).1 = true := h3
            refine rgn fun pan K hp hK => ?_; show aCall _ _ _ _ _ _ _
            cases hr3 : blkQ W n (IntKind.i64.wrap (d + 1)) (hasW W ⟨#[101, 108, 115, 101]⟩ Y2).2 with
            | none => simp only [stmtQ, hIF, hr1, hr2, h3, hr3, Option.bind_none, Option.bind_some, Bool.true_or] at hG <;> cases hG
            | some r3 =>
              obtain ⟨b3, Y3⟩ := r3
              obtain ⟨hk3, sp3⟩ := bl_both (ihB n (Nat.le_refl n)) (hasW_k hk2) hr3
              refine aCall_ret (L := [0]) rfl rfl rfl sp3 rfl rfl rfl rfl ?_
              refine hK _ ?_; clear hK hp K pan; refine awp_norm [4, 5] rfl rfl ?_; refine awp_seq ?_; refine rgn fun pan K hp hK => ?_; refine hK _ ?_; clear hK hp K pan; refine awp_norm [4] rfl rfl ?_; refine awp_ret ?_
              simp only [stmtQ, hIF, hr1, hr2, eh3, hr3, Option.bind_some, Option.some.injEq, Bool.true_or] at hG
              subst hG
              exact ⟨_, [0], _, [encM _], rfl, rfl, rfl, rfl, rfl, (by first | exact PWs.refl _ | (refine PWs.cons (PW.d ?_) PWs.nil; repeat (first | exact DW.refl _ | refine DW.agg ?_ | refine DWs.cons ?_ ?_ | exact DWs.nil | exact DW.nil _))), rfl⟩
          have eh3 : (hasW W ⟨#[101, 108, 115, 101]⟩ Y2).1 = false := h3
          refine awp_skip ?_; refine awp_seq ?_; refine rgn fun pan K hp hK => ?_; refine hK _ ?_; clear hK hp K pan; refine awp_norm [4] rfl rfl ?_; refine awp_ret ?_
          simp only [stmtQ, hIF, hr1, hr2, eh3, Option.bind_some, Option.some.injEq, Bool.true_or] at hG
          subst hG
          exact ⟨_, [0], _, [encM _], rfl, rfl, rfl, rfl, rfl, (by first | exact PWs.refl _ | (refine PWs.cons (PW.d ?_) PWs.nil; repeat (first | exact DW.refl _ | refine DW.agg ?_ | refine DWs.cons ?_ ?_ | exact DWs.nil | exact DW.nil _))), rfl⟩
        exact absurd (h2.symm.trans hIF) (by decide)
  exact absurd (h1.symm.trans hIF) (by decide)
theorem stQ_while (hW : WOk W) (n : Nat) (hn : n ≤ 1000000) (ihB : ∀ m, m ≤ n → BlQ G W m) (d : Int) (X : RSt) (hk : X.k < W.length) (r : Sm × RSt) (hG : stmtQ W (n + 1) d X = some r) (hIF : eqW (wrd W X) ⟨#[105, 102]⟩ = false) (hWH : eqW (wrd W X) ⟨#[119, 104, 105, 108, 101]⟩ = true) : Spec Tryz.prog G 144 [.box 0 0, .d (num d)] [PB W X] (.ret (encM r.1)) [PB W r.2] := by
  refine spec_of_awp2 TT_ok (N := 137) Tryz.func144 rfl (by rfl) (Nat.le_refl _) rfl ?_
  refine awp_seq ?_; refine rgn fun pan K hp hK => ?_; refine hK _ ?_; clear hK hp K pan; refine awp_norm [0, 1, 4] rfl rfl ?_; refine awp_seq ?_; refine rgn fun pan K hp hK => ?_; show aCall _ _ _ _ _ _ _
  refine aCall_ret (L := [0]) rfl rfl rfl (wordR_spec X hk _ rfl) rfl rfl rfl rfl ?_
  refine hK _ ?_; clear hK hp K pan; refine awp_norm [0, 1, 4, 5] rfl rfl ?_; refine awp_seq ?_; refine awp_seq ?_; refine rgn fun pan K hp hK => ?_; refine hK _ ?_; clear hK hp K pan; refine awp_norm [0, 1, 4, 5, 19] rfl rfl ?_; refine awp_block ?_; refine awp_seq ?_; refine awp_seq ?_; refine rgn fun pan K hp hK => ?_; refine hK _ ?_; clear hK hp K pan; refine awp_norm [0, 1, 4, 5, 19, 92] rfl rfl ?_
  refine awp_cond2 rfl (onB_intro (fun h1 => ?_) (fun h1 => ?_))
  · exact absurd (h1.symm.trans hIF) (by decide)
  refine rgn fun pan K hp hK => ?_; refine hK _ ?_; clear hK hp K pan; refine awp_norm [0, 1, 4, 5, 19, 92] rfl rfl ?_
  refine awp_cond2 rfl (onB_intro (fun h2 => ?_) (fun h2 => ?_))
  · refine awp_seq ?_; refine rgn fun pan K hp hK => ?_; show aCall _ _ _ _ _ _ _
    refine aCall_ret (L := [0]) rfl rfl rfl (passR_spec X hk hW _ rfl) rfl rfl rfl rfl ?_
    refine hK _ ?_; clear hK hp K pan; refine awp_norm [0, 1, 4, 5] rfl rfl ?_; refine awp_seq ?_; refine rgn fun pan K hp hK => ?_; show aCall _ _ _ _ _ _ _
    cases hr1 : condQ W n (passW W X) with
    | none => simp only [stmtQ, hIF, hWH, hr1, Option.bind_none, Bool.or_true] at hG <;> cases hG
    | some r1 =>
      obtain ⟨c1, Y1⟩ := r1
      obtain ⟨hk1, sp1⟩ := cond_both hW hn (passW_k hk) hr1
      refine aCall_ret (L := [0]) rfl rfl rfl sp1 rfl rfl rfl rfl ?_
      refine hK _ ?_; clear hK hp K pan; refine awp_norm [0, 1, 4, 5] rfl rfl ?_; refine awp_seq ?_; refine rgn fun pan K hp hK => ?_; show aCall _ _ _ _ _ _ _
      cases hr2 : blkQ W n (IntKind.i64.wrap (d + 1)) Y1 with
      | none => simp only [stmtQ, hIF, hWH, hr1, hr2, Option.bind_none, Option.bind_some, Bool.or_true] at hG <;> cases hG
      | some r2 =>
        obtain ⟨b2, Y2⟩ := r2
        obtain ⟨hk2, sp2⟩ := bl_both (ihB n (Nat.le_refl n)) hk1 hr2
        refine aCall_ret (L := [0]) rfl rfl rfl sp2 rfl rfl rfl rfl ?_
        refine hK _ ?_; clear hK hp K pan; refine awp_norm [0, 1, 4, 5] rfl rfl ?_; refine awp_seq ?_; refine rgn fun pan K hp hK => ?_
        refine onB_intro (fun h3 => ?_) (fun h3 => ?_)
        · exact absurd (h3.symm.trans hIF) (by decide)
        refine hK _ ?_; clear hK hp K pan; refine awp_norm [0, 1, 4, 5, 6] rfl rfl ?_; refine awp_seq ?_; refine awp_seq ?_; refine rgn fun pan K hp hK => ?_; refine hK _ ?_; clear hK hp K pan; refine awp_norm [0, 1, 4, 5, 112] rfl rfl ?_; refine awp_cond rfl ?_; refine awp_skip ?_; refine awp_seq ?_; refine rgn fun pan K hp hK => ?_; refine hK _ ?_; clear hK hp K pan; refine awp_norm [4] rfl rfl ?_; refine awp_ret ?_
        simp only [stmtQ, hIF, hWH, hr1, hr2, Option.bind_some, Option.some.injEq, Bool.or_true] at hG
        subst hG
        exact ⟨_, [0], _, [encM _], rfl, rfl, rfl, rfl, rfl, (by first | exact PWs.refl _ | (refine PWs.cons (PW.d ?_) PWs.nil; repeat (first | exact DW.refl _ | refine DW.agg ?_ | refine DWs.cons ?_ ?_ | exact DWs.nil | exact DW.nil _))), rfl⟩
  exact absurd (h2.symm.trans hWH) (by decide)
theorem stQ_assert (hW : WOk W) (n : Nat) (hn : n ≤ 1000000) (ihB : ∀ m, m ≤ n → BlQ G W m) (d : Int) (X : RSt) (hk : X.k < W.length) (r : Sm × RSt) (hG : stmtQ W (n + 1) d X = some r) (hIF : eqW (wrd W X) ⟨#[105, 102]⟩ = false) (hWH : eqW (wrd W X) ⟨#[119, 104, 105, 108, 101]⟩ = false) (hAS : eqW (wrd W X) ⟨#[97, 115, 115, 101, 114, 116]⟩ = true) : Spec Tryz.prog G 144 [.box 0 0, .d (num d)] [PB W X] (.ret (encM r.1)) [PB W r.2] := by
  refine spec_of_awp2 TT_ok (N := 137) Tryz.func144 rfl (by rfl) (Nat.le_refl _) rfl ?_
  refine awp_seq ?_; refine rgn fun pan K hp hK => ?_; refine hK _ ?_; clear hK hp K pan; refine awp_norm [0, 1, 4] rfl rfl ?_; refine awp_seq ?_; refine rgn fun pan K hp hK => ?_; show aCall _ _ _ _ _ _ _
  refine aCall_ret (L := [0]) rfl rfl rfl (wordR_spec X hk _ rfl) rfl rfl rfl rfl ?_
  refine hK _ ?_; clear hK hp K pan; refine awp_norm [0, 1, 4, 5] rfl rfl ?_; refine awp_seq ?_; refine awp_seq ?_; refine rgn fun pan K hp hK => ?_; refine hK _ ?_; clear hK hp K pan; refine awp_norm [0, 1, 4, 5, 19] rfl rfl ?_; refine awp_block ?_; refine awp_seq ?_; refine awp_seq ?_; refine rgn fun pan K hp hK => ?_; refine hK _ ?_; clear hK hp K pan; refine awp_norm [0, 1, 4, 5, 19, 92] rfl rfl ?_
  refine awp_cond2 rfl (onB_intro (fun h1 => ?_) (fun h1 => ?_))
  · exact absurd (h1.symm.trans hIF) (by decide)
  refine rgn fun pan K hp hK => ?_; refine hK _ ?_; clear hK hp K pan; refine awp_norm [0, 1, 4, 5, 19, 92] rfl rfl ?_
  refine awp_cond2 rfl (onB_intro (fun h2 => ?_) (fun h2 => ?_))
  · exact absurd (h2.symm.trans hWH) (by decide)
  refine awp_seq ?_; refine awp_seq ?_; refine rgn fun pan K hp hK => ?_; refine hK _ ?_; clear hK hp K pan; refine awp_norm [0, 4, 5, 19, 119] rfl rfl ?_
  refine awp_cond2 rfl (onB_intro (fun h3 => ?_) (fun h3 => ?_))
  · refine awp_skip ?_; refine awp_cond rfl ?_; refine awp_seq ?_; refine rgn fun pan K hp hK => ?_; show aCall _ _ _ _ _ _ _
    refine aCall_ret (L := [0]) rfl rfl rfl (passR_spec X hk hW _ rfl) rfl rfl rfl rfl ?_
    refine hK _ ?_; clear hK hp K pan; refine awp_norm [0, 4, 5] rfl rfl ?_; refine rgn fun pan K hp hK => ?_; show aCall _ _ _ _ _ _ _
    cases hr1 : condQ W n (passW W X) with
    | none => simp only [stmtQ, hIF, hWH, hAS, hr1, Option.bind_none, Bool.true_or, Bool.or_self] at hG <;> cases hG
    | some r1 =>
      obtain ⟨c1, Y1⟩ := r1
      obtain ⟨hk1, sp1⟩ := cond_both hW hn (passW_k hk) hr1
      refine aCall_ret (L := [0]) rfl rfl rfl sp1 rfl rfl rfl rfl ?_
      refine hK _ ?_; clear hK hp K pan; refine awp_norm [0, 4, 5] rfl rfl ?_; refine awp_seq ?_; refine rgn fun pan K hp hK => ?_; show aCall _ _ _ _ _ _ _
      refine aCall_ret (L := [0]) rfl rfl rfl (wantR_spec Y1 hk1 hW ⟨#[59]⟩ _ rfl) rfl rfl rfl rfl ?_
      refine hK _ ?_; clear hK hp K pan; refine awp_norm [4, 5] rfl rfl ?_; refine awp_seq ?_; refine rgn fun pan K hp hK => ?_; refine hK _ ?_; clear hK hp K pan; refine awp_norm [4] rfl rfl ?_; refine awp_ret ?_
      simp only [stmtQ, hIF, hWH, hAS, hr1, Option.bind_some, Option.some.injEq, Bool.true_or, Bool.or_self] at hG
      subst hG
      exact ⟨_, [0], _, [encM _], rfl, rfl, rfl, rfl, rfl, (by first | exact PWs.refl _ | (refine PWs.cons (PW.d ?_) PWs.nil; repeat (first | exact DW.refl _ | refine DW.agg ?_ | refine DWs.cons ?_ ?_ | exact DWs.nil | exact DW.nil _))), rfl⟩
  exact absurd (h3.symm.trans hAS) (by decide)
theorem stQ_assume (hW : WOk W) (n : Nat) (hn : n ≤ 1000000) (ihB : ∀ m, m ≤ n → BlQ G W m) (d : Int) (X : RSt) (hk : X.k < W.length) (r : Sm × RSt) (hG : stmtQ W (n + 1) d X = some r) (hIF : eqW (wrd W X) ⟨#[105, 102]⟩ = false) (hWH : eqW (wrd W X) ⟨#[119, 104, 105, 108, 101]⟩ = false) (hAS : eqW (wrd W X) ⟨#[97, 115, 115, 101, 114, 116]⟩ = false) (hAU : eqW (wrd W X) ⟨#[97, 115, 115, 117, 109, 101]⟩ = true) : Spec Tryz.prog G 144 [.box 0 0, .d (num d)] [PB W X] (.ret (encM r.1)) [PB W r.2] := by
  refine spec_of_awp2 TT_ok (N := 137) Tryz.func144 rfl (by rfl) (Nat.le_refl _) rfl ?_
  refine awp_seq ?_; refine rgn fun pan K hp hK => ?_; refine hK _ ?_; clear hK hp K pan; refine awp_norm [0, 1, 4] rfl rfl ?_; refine awp_seq ?_; refine rgn fun pan K hp hK => ?_; show aCall _ _ _ _ _ _ _
  refine aCall_ret (L := [0]) rfl rfl rfl (wordR_spec X hk _ rfl) rfl rfl rfl rfl ?_
  refine hK _ ?_; clear hK hp K pan; refine awp_norm [0, 1, 4, 5] rfl rfl ?_; refine awp_seq ?_; refine awp_seq ?_; refine rgn fun pan K hp hK => ?_; refine hK _ ?_; clear hK hp K pan; refine awp_norm [0, 1, 4, 5, 19] rfl rfl ?_; refine awp_block ?_; refine awp_seq ?_; refine awp_seq ?_; refine rgn fun pan K hp hK => ?_; refine hK _ ?_; clear hK hp K pan; refine awp_norm [0, 1, 4, 5, 19, 92] rfl rfl ?_
  refine awp_cond2 rfl (onB_intro (fun h1 => ?_) (fun h1 => ?_))
  · exact absurd (h1.symm.trans hIF) (by decide)
  refine rgn fun pan K hp hK => ?_; refine hK _ ?_; clear hK hp K pan; refine awp_norm [0, 1, 4, 5, 19, 92] rfl rfl ?_
  refine awp_cond2 rfl (onB_intro (fun h2 => ?_) (fun h2 => ?_))
  · exact absurd (h2.symm.trans hWH) (by decide)
  refine awp_seq ?_; refine awp_seq ?_; refine rgn fun pan K hp hK => ?_; refine hK _ ?_; clear hK hp K pan; refine awp_norm [0, 4, 5, 19, 119] rfl rfl ?_
  refine awp_cond2 rfl (onB_intro (fun h3 => ?_) (fun h3 => ?_))
  · exact absurd (h3.symm.trans hAS) (by decide)
  refine rgn fun pan K hp hK => ?_; refine hK _ ?_; clear hK hp K pan; refine awp_norm [0, 4, 5, 19, 119] rfl rfl ?_
  refine awp_cond2 rfl (onB_intro (fun h4 => ?_) (fun h4 => ?_))
  · refine awp_seq ?_; refine rgn fun pan K hp hK => ?_; show aCall _ _ _ _ _ _ _
    refine aCall_ret (L := [0]) rfl rfl rfl (passR_spec X hk hW _ rfl) rfl rfl rfl rfl ?_
    refine hK _ ?_; clear hK hp K pan; refine awp_norm [0, 4, 5] rfl rfl ?_; refine rgn fun pan K hp hK => ?_; show aCall _ _ _ _ _ _ _
    cases hr1 : condQ W n (passW W X) with
    | none => simp only [stmtQ, hIF, hWH, hAS, hAU, hr1, Option.bind_none, Bool.or_true, Bool.or_self] at hG <;> cases hG
    | some r1 =>
      obtain ⟨c1, Y1⟩ := r1
      obtain ⟨hk1, sp1⟩ := cond_both hW hn (passW_k hk) hr1
      refine aCall_ret (L := [0]) rfl rfl rfl sp1 rfl rfl rfl rfl ?_
      refine hK _ ?_; clear hK hp K pan; refine awp_norm [0, 4, 5] rfl rfl ?_; refine awp_seq ?_; refine rgn fun pan K hp hK => ?_; show aCall _ _ _ _ _ _ _
      refine aCall_ret (L := [0]) rfl rfl rfl (wantR_spec Y1 hk1 hW ⟨#[59]⟩ _ rfl) rfl rfl rfl rfl ?_
      refine hK _ ?_; clear hK hp K pan; refine awp_norm [4, 5] rfl rfl ?_; refine awp_seq ?_; refine rgn fun pan K hp hK => ?_; refine hK _ ?_; clear hK hp K pan; refine awp_norm [4] rfl rfl ?_; refine awp_ret ?_
      simp only [stmtQ, hIF, hWH, hAS, hAU, hr1, Option.bind_some, Option.some.injEq, Bool.or_true, Bool.or_self] at hG
      subst hG
      exact ⟨_, [0], _, [encM _], rfl, rfl, rfl, rfl, rfl, (by first | exact PWs.refl _ | (refine PWs.cons (PW.d ?_) PWs.nil; repeat (first | exact DW.refl _ | refine DW.agg ?_ | refine DWs.cons ?_ ?_ | exact DWs.nil | exact DW.nil _))), rfl⟩
  exact absurd (h4.symm.trans hAU) (by decide)
theorem stQ_read (hW : WOk W) (n : Nat) (hn : n ≤ 1000000) (ihB : ∀ m, m ≤ n → BlQ G W m) (d : Int) (X : RSt) (hk : X.k < W.length) (r : Sm × RSt) (hG : stmtQ W (n + 1) d X = some r) (hIF : eqW (wrd W X) ⟨#[105, 102]⟩ = false) (hWH : eqW (wrd W X) ⟨#[119, 104, 105, 108, 101]⟩ = false) (hAS : eqW (wrd W X) ⟨#[97, 115, 115, 101, 114, 116]⟩ = false) (hAU : eqW (wrd W X) ⟨#[97, 115, 115, 117, 109, 101]⟩ = false) (hRD : eqW (wrd W X) ⟨#[114, 101, 97, 100]⟩ = true) : Spec Tryz.prog G 144 [.box 0 0, .d (num d)] [PB W X] (.ret (encM r.1)) [PB W r.2] := by
  refine spec_of_awp2 TT_ok (N := 137) Tryz.func144 rfl (by rfl) (Nat.le_refl _) rfl ?_
  refine awp_seq ?_; refine rgn fun pan K hp hK => ?_; refine hK _ ?_; clear hK hp K pan; refine awp_norm [0, 1, 4] rfl rfl ?_; refine awp_seq ?_; refine rgn fun pan K hp hK => ?_; show aCall _ _ _ _ _ _ _
  refine aCall_ret (L := [0]) rfl rfl rfl (wordR_spec X hk _ rfl) rfl rfl rfl rfl ?_
  refine hK _ ?_; clear hK hp K pan; refine awp_norm [0, 1, 4, 5] rfl rfl ?_; refine awp_seq ?_; refine awp_seq ?_; refine rgn fun pan K hp hK => ?_; refine hK _ ?_; clear hK hp K pan; refine awp_norm [0, 1, 4, 5, 19] rfl rfl ?_; refine awp_block ?_; refine awp_seq ?_; refine awp_seq ?_; refine rgn fun pan K hp hK => ?_; refine hK _ ?_; clear hK hp K pan; refine awp_norm [0, 1, 4, 5, 19, 92] rfl rfl ?_
  refine awp_cond2 rfl (onB_intro (fun h1 => ?_) (fun h1 => ?_))
  · exact absurd (h1.symm.trans hIF) (by decide)
  refine rgn fun pan K hp hK => ?_; refine hK _ ?_; clear hK hp K pan; refine awp_norm [0, 1, 4, 5, 19, 92] rfl rfl ?_
  refine awp_cond2 rfl (onB_intro (fun h2 => ?_) (fun h2 => ?_))
  · exact absurd (h2.symm.trans hWH) (by decide)
  refine awp_seq ?_; refine awp_seq ?_; refine rgn fun pan K hp hK => ?_; refine hK _ ?_; clear hK hp K pan; refine awp_norm [0, 4, 5, 19, 119] rfl rfl ?_
  refine awp_cond2 rfl (onB_intro (fun h3 => ?_) (fun h3 => ?_))
  · exact absurd (h3.symm.trans hAS) (by decide)
  refine rgn fun pan K hp hK => ?_; refine hK _ ?_; clear hK hp K pan; refine awp_norm [0, 4, 5, 19, 119] rfl rfl ?_
  refine awp_cond2 rfl (onB_intro (fun h4 => ?_) (fun h4 => ?_))
  · exact absurd (h4.symm.trans hAU) (by decide)
  refine awp_seq ?_; refine rgn fun pan K hp hK => ?_; refine hK _ ?_; clear hK hp K pan; refine awp_norm [0, 4, 5, 127] rfl rfl ?_
  refine awp_cond2 rfl (onB_intro (fun h5 => ?_) (fun h5 => ?_))
  · refine awp_seq ?_; refine rgn fun pan K hp hK => ?_; show aCall _ _ _ _ _ _ _
    refine aCall_ret (L := [0]) rfl rfl rfl (passR_spec X hk hW _ rfl) rfl rfl rfl rfl ?_
    refine hK _ ?_; clear hK hp K pan; refine awp_norm [0, 4, 5] rfl rfl ?_; refine rgn fun pan K hp hK => ?_; show aCall _ _ _ _ _ _ _
    refine aCall_ret (L := [0]) rfl rfl rfl (nameR_spec (passW W X) (passW_k hk) hW _ rfl) rfl rfl rfl rfl ?_
    refine hK _ ?_; clear hK hp K pan; refine awp_norm [0, 4, 5] rfl rfl ?_; refine awp_seq ?_; refine rgn fun pan K hp hK => ?_; show aCall _ _ _ _ _ _ _
    refine aCall_ret (L := [0]) rfl rfl rfl (wantR_spec (nameW W (passW W X)).2 (nameW_k (passW_k hk)) hW ⟨#[59]⟩ _ rfl) rfl rfl rfl rfl ?_
    refine hK _ ?_; clear hK hp K pan; refine awp_norm [4, 5] rfl rfl ?_; refine awp_seq ?_; refine rgn fun pan K hp hK => ?_; refine hK _ ?_; clear hK hp K pan; refine awp_norm [4] rfl rfl ?_; refine awp_ret ?_
    simp only [stmtQ, hIF, hWH, hAS, hAU, hRD, Option.some.injEq, Bool.or_self] at hG
    subst hG
    exact ⟨_, [0], _, [encM _], rfl, rfl, rfl, rfl, rfl, (by first | exact PWs.refl _ | (refine PWs.cons (PW.d ?_) PWs.nil; repeat (first | exact DW.refl _ | refine DW.agg ?_ | refine DWs.cons ?_ ?_ | exact DWs.nil | exact DW.nil _))), rfl⟩
  exact absurd (h5.symm.trans hRD) (by decide)
theorem stQ_put (hW : WOk W) (n : Nat) (hn : n ≤ 1000000) (ihB : ∀ m, m ≤ n → BlQ G W m) (d : Int) (X : RSt) (hk : X.k < W.length) (r : Sm × RSt) (hG : stmtQ W (n + 1) d X = some r) (hIF : eqW (wrd W X) ⟨#[105, 102]⟩ = false) (hWH : eqW (wrd W X) ⟨#[119, 104, 105, 108, 101]⟩ = false) (hAS : eqW (wrd W X) ⟨#[97, 115, 115, 101, 114, 116]⟩ = false) (hAU : eqW (wrd W X) ⟨#[97, 115, 115, 117, 109, 101]⟩ = false) (hRD : eqW (wrd W X) ⟨#[114, 101, 97, 100]⟩ = false) (hLB : (hasW W ⟨#[91]⟩ (nameW W X).2).1 = true) : Spec Tryz.prog G 144 [.box 0 0, .d (num d)] [PB W X] (.ret (encM r.1)) [PB W r.2] := by
  refine spec_of_awp2 TT_ok (N := 137) Tryz.func144 rfl (by rfl) (Nat.le_refl _) rfl ?_
  refine awp_seq ?_; refine rgn fun pan K hp hK => ?_; refine hK _ ?_; clear hK hp K pan; refine awp_norm [0, 1, 4] rfl rfl ?_; refine awp_seq ?_; refine rgn fun pan K hp hK => ?_; show aCall _ _ _ _ _ _ _
  refine aCall_ret (L := [0]) rfl rfl rfl (wordR_spec X hk _ rfl) rfl rfl rfl rfl ?_
  refine hK _ ?_; clear hK hp K pan; refine awp_norm [0, 1, 4, 5] rfl rfl ?_; refine awp_seq ?_; refine awp_seq ?_; refine rgn fun pan K hp hK => ?_; refine hK _ ?_; clear hK hp K pan; refine awp_norm [0, 1, 4, 5, 19] rfl rfl ?_; refine awp_block ?_; refine awp_seq ?_; refine awp_seq ?_; refine rgn fun pan K hp hK => ?_; refine hK _ ?_; clear hK hp K pan; refine awp_norm [0, 1, 4, 5, 19, 92] rfl rfl ?_
  refine awp_cond2 rfl (onB_intro (fun h1 => ?_) (fun h1 => ?_))
  · exact absurd (h1.symm.trans hIF) (by decide)
  refine rgn fun pan K hp hK => ?_; refine hK _ ?_; clear hK hp K pan; refine awp_norm [0, 1, 4, 5, 19, 92] rfl rfl ?_
  refine awp_cond2 rfl (onB_intro (fun h2 => ?_) (fun h2 => ?_))
  · exact absurd (h2.symm.trans hWH) (by decide)
  refine awp_seq ?_; refine awp_seq ?_; refine rgn fun pan K hp hK => ?_; refine hK _ ?_; clear hK hp K pan; refine awp_norm [0, 4, 5, 19, 119] rfl rfl ?_
  refine awp_cond2 rfl (onB_intro (fun h3 => ?_) (fun h3 => ?_))
  · exact absurd (h3.symm.trans hAS) (by decide)
  refine rgn fun pan K hp hK => ?_; refine hK _ ?_; clear hK hp K pan; refine awp_norm [0, 4, 5, 19, 119] rfl rfl ?_
  refine awp_cond2 rfl (onB_intro (fun h4 => ?_) (fun h4 => ?_))
  · exact absurd (h4.symm.trans hAU) (by decide)
  refine awp_seq ?_; refine rgn fun pan K hp hK => ?_; refine hK _ ?_; clear hK hp K pan; refine awp_norm [0, 4, 5, 127] rfl rfl ?_
  refine awp_cond2 rfl (onB_intro (fun h5 => ?_) (fun h5 => ?_))
  · exact absurd (h5.symm.trans hRD) (by decide)
  refine awp_seq ?_; refine rgn fun pan K hp hK => ?_; show aCall _ _ _ _ _ _ _
  refine aCall_ret (L := [0]) rfl rfl rfl (nameR_spec X hk hW _ rfl) rfl rfl rfl rfl ?_
  refine hK _ ?_; clear hK hp K pan; refine awp_norm [0, 4, 5] rfl rfl ?_; refine awp_seq ?_; refine rgn fun pan K hp hK => ?_; refine hK _ ?_; clear hK hp K pan; refine awp_norm [0, 4, 5] rfl rfl ?_
  refine awp_accCell 2 3 143 4 rfl rfl rfl rfl ?_
  refine awp_norm [0, 4, 5] rfl rfl ?_; refine awp_seq ?_; refine rgn fun pan K hp hK => ?_; show aCall _ _ _ _ _ _ _
  refine aCall_ret (L := [0]) rfl rfl rfl (hasR_spec (nameW W X).2 (nameW_k hk) hW ⟨#[91]⟩ _ rfl) rfl rfl rfl rfl ?_
  refine hK _ ?_; clear hK hp K pan; refine awp_norm [0, 4, 5, 7] rfl rfl ?_; refine awp_seq ?_; refine awp_seq ?_; refine rgn fun pan K hp hK => ?_; refine hK _ ?_; clear hK hp K pan; refine awp_norm [0, 4, 5, 7, 26] rfl rfl ?_
  refine awp_cond2 rfl (onB_intro (fun h6 => ?_) (fun h6 => ?_))
  · refine awp_seq ?_; refine rgn fun pan K hp hK => ?_; refine hK _ ?_; clear hK hp K pan; refine awp_norm [0, 4, 5, 7] rfl rfl ?_; refine awp_seq ?_; refine rgn fun pan K hp hK => ?_; show aCall _ _ _ _ _ _ _
    cases hr1 : termQ W n 1 (hasW W ⟨#[91]⟩ (nameW W X).2).2 with
    | none => simp only [stmtQ, hIF, hWH, hAS, hAU, hRD, hLB, hr1, Option.bind_none, Bool.or_self] at hG <;> cases hG
    | some r1 =>
      obtain ⟨⟨o1, n1, m1, l1⟩, Y1⟩ := r1
      obtain ⟨hk1, sp1⟩ := te_both ((termsW_ok hW n).2.2) (hasW_k (nameW_k hk)) hr1
      refine aCall_ret (L := [0]) rfl rfl rfl sp1 rfl rfl rfl rfl ?_
      refine hK _ ?_; clear hK hp K pan; refine awp_norm [0, 4, 5, 7, 8] rfl rfl ?_; refine awp_seq ?_; refine rgn fun pan K hp hK => ?_
      refine And.intro (And.intro ((by simp only [List.length_nil, chunk_length]; omega)) ((by simp only [List.length_nil, chunk_length, maxLen]; omega))) ?_
      refine hK _ ?_; clear hK hp K pan; refine awp_norm [0, 4, 5, 7, 9] rfl rfl ?_; refine awp_seq ?_; refine rgn fun pan K hp hK => ?_; refine hK _ ?_; clear hK hp K pan; refine awp_norm [0, 4, 5, 7] rfl rfl ?_; refine rgn fun pan K hp hK => ?_; show aCall _ _ _ _ _ _ _
      refine aCall_ret (L := [0]) rfl rfl rfl (wantR_spec Y1 hk1 hW ⟨#[93]⟩ _ rfl) rfl rfl rfl rfl ?_
      refine hK _ ?_; clear hK hp K pan; refine awp_norm [0, 4, 5, 7] rfl rfl ?_; refine awp_seq ?_; refine rgn fun pan K hp hK => ?_; show aCall _ _ _ _ _ _ _
      refine aCall_ret (L := [0]) rfl rfl rfl (wantR_spec (wantW W ⟨#[93]⟩ Y1) (wantW_k hk1) hW ⟨#[61]⟩ _ rfl) rfl rfl rfl rfl ?_
      refine hK _ ?_; clear hK hp K pan; refine awp_norm [0, 4, 5, 7] rfl rfl ?_; refine awp_seq ?_; refine rgn fun pan K hp hK => ?_
      refine onB_intro (fun h7 => ?_) (fun h7 => ?_)
      · have e : (hasW W ⟨#[91]⟩ (nameW W X).2).1 = false := by simpa using h7
        exact absurd (e.symm.trans hLB) (by decide)
      refine hK _ ?_; clear hK hp K pan; refine awp_norm [0, 4, 5, 10] rfl rfl ?_; refine awp_seq ?_; refine awp_seq ?_; refine rgn fun pan K hp hK => ?_; refine hK _ ?_; clear hK hp K pan; refine awp_norm [0, 4, 5, 48] rfl rfl ?_; refine awp_cond rfl ?_; refine awp_seq ?_; refine rgn fun pan K hp hK => ?_; show aCall _ _ _ _ _ _ _
      cases hr2 : termQ W n 1 (wantW W ⟨#[61]⟩ (wantW W ⟨#[93]⟩ Y1)) with
      | none => simp only [stmtQ, hIF, hWH, hAS, hAU, hRD, hLB, hr1, hr2, Option.bind_none, Option.bind_some, Bool.or_self] at hG <;> cases hG
      | some r2 =>
        obtain ⟨⟨o2, n2, m2, l2⟩, Y2⟩ := r2
        obtain ⟨hk2, sp2⟩ := te_both ((termsW_ok hW n).2.2) (wantW_k (wantW_k hk1)) hr2
        refine aCall_ret (L := [0]) rfl rfl rfl sp2 rfl rfl rfl rfl ?_
        refine hK _ ?_; clear hK hp K pan; refine awp_norm [0, 4, 5, 11] rfl rfl ?_; refine awp_seq ?_; refine rgn fun pan K hp hK => ?_
        refine And.intro (And.intro ((by simp only [List.nil_append, chunk_length]; omega)) ((by simp only [List.nil_append, chunk_length, maxLen]; omega))) ?_
        refine hK _ ?_; clear hK hp K pan; refine awp_norm [0, 4, 5, 12] rfl rfl ?_; refine awp_seq ?_; refine rgn fun pan K hp hK => ?_; refine hK _ ?_; clear hK hp K pan; refine awp_norm [0, 4, 5] rfl rfl ?_
        refine awp_exit ?_
        refine awp_norm [0, 4, 5] rfl rfl ?_; refine awp_seq ?_; refine rgn fun pan K hp hK => ?_; show aCall _ _ _ _ _ _ _
        refine aCall_ret (L := [0]) rfl rfl rfl (wantR_spec Y2 hk2 hW ⟨#[59]⟩ _ rfl) rfl rfl rfl rfl ?_
        refine hK _ ?_; clear hK hp K pan; refine awp_norm [4, 5] rfl rfl ?_; refine awp_seq ?_; refine rgn fun pan K hp hK => ?_; refine hK _ ?_; clear hK hp K pan; refine awp_norm [4] rfl rfl ?_; refine awp_ret ?_
        simp only [stmtQ, hIF, hWH, hAS, hAU, hRD, hLB, hr1, hr2, Option.bind_some, Option.some.injEq, Bool.or_self] at hG
        subst hG
        exact ⟨_, [0], _, [encM _], rfl, rfl, rfl, rfl, rfl, (by first | exact PWs.refl _ | (refine PWs.cons (PW.d ?_) PWs.nil; repeat (first | exact DW.refl _ | refine DW.agg ?_ | refine DWs.cons ?_ ?_ | exact DWs.nil | exact DW.nil _))), rfl⟩
  exact absurd (h6.symm.trans hLB) (by decide)
theorem stQ_set (hW : WOk W) (n : Nat) (hn : n ≤ 1000000) (ihB : ∀ m, m ≤ n → BlQ G W m) (d : Int) (X : RSt) (hk : X.k < W.length) (r : Sm × RSt) (hG : stmtQ W (n + 1) d X = some r) (hIF : eqW (wrd W X) ⟨#[105, 102]⟩ = false) (hWH : eqW (wrd W X) ⟨#[119, 104, 105, 108, 101]⟩ = false) (hAS : eqW (wrd W X) ⟨#[97, 115, 115, 101, 114, 116]⟩ = false) (hAU : eqW (wrd W X) ⟨#[97, 115, 115, 117, 109, 101]⟩ = false) (hRD : eqW (wrd W X) ⟨#[114, 101, 97, 100]⟩ = false) (hLB : (hasW W ⟨#[91]⟩ (nameW W X).2).1 = false) (hCA : (hasW W ⟨#[99, 97, 108, 108]⟩ (wantW W ⟨#[61]⟩ (hasW W ⟨#[91]⟩ (nameW W X).2).2)).1 = false) : Spec Tryz.prog G 144 [.box 0 0, .d (num d)] [PB W X] (.ret (encM r.1)) [PB W r.2] := by
  refine spec_of_awp2 TT_ok (N := 137) Tryz.func144 rfl (by rfl) (Nat.le_refl _) rfl ?_
  refine awp_seq ?_; refine rgn fun pan K hp hK => ?_; refine hK _ ?_; clear hK hp K pan; refine awp_norm [0, 1, 4] rfl rfl ?_; refine awp_seq ?_; refine rgn fun pan K hp hK => ?_; show aCall _ _ _ _ _ _ _
  refine aCall_ret (L := [0]) rfl rfl rfl (wordR_spec X hk _ rfl) rfl rfl rfl rfl ?_
  refine hK _ ?_; clear hK hp K pan; refine awp_norm [0, 1, 4, 5] rfl rfl ?_; refine awp_seq ?_; refine awp_seq ?_; refine rgn fun pan K hp hK => ?_; refine hK _ ?_; clear hK hp K pan; refine awp_norm [0, 1, 4, 5, 19] rfl rfl ?_; refine awp_block ?_; refine awp_seq ?_; refine awp_seq ?_; refine rgn fun pan K hp hK => ?_; refine hK _ ?_; clear hK hp K pan; refine awp_norm [0, 1, 4, 5, 19, 92] rfl rfl ?_
  refine awp_cond2 rfl (onB_intro (fun h1 => ?_) (fun h1 => ?_))
  · exact absurd (h1.symm.trans hIF) (by decide)
  refine rgn fun pan K hp hK => ?_; refine hK _ ?_; clear hK hp K pan; refine awp_norm [0, 1, 4, 5, 19, 92] rfl rfl ?_
  refine awp_cond2 rfl (onB_intro (fun h2 => ?_) (fun h2 => ?_))
  · exact absurd (h2.symm.trans hWH) (by decide)
  refine awp_seq ?_; refine awp_seq ?_; refine rgn fun pan K hp hK => ?_; refine hK _ ?_; clear hK hp K pan; refine awp_norm [0, 4, 5, 19, 119] rfl rfl ?_
  refine awp_cond2 rfl (onB_intro (fun h3 => ?_) (fun h3 => ?_))
  · exact absurd (h3.symm.trans hAS) (by decide)
  refine rgn fun pan K hp hK => ?_; refine hK _ ?_; clear hK hp K pan; refine awp_norm [0, 4, 5, 19, 119] rfl rfl ?_
  refine awp_cond2 rfl (onB_intro (fun h4 => ?_) (fun h4 => ?_))
  · exact absurd (h4.symm.trans hAU) (by decide)
  refine awp_seq ?_; refine rgn fun pan K hp hK => ?_; refine hK _ ?_; clear hK hp K pan; refine awp_norm [0, 4, 5, 127] rfl rfl ?_
  refine awp_cond2 rfl (onB_intro (fun h5 => ?_) (fun h5 => ?_))
  · exact absurd (h5.symm.trans hRD) (by decide)
  refine awp_seq ?_; refine rgn fun pan K hp hK => ?_; show aCall _ _ _ _ _ _ _
  refine aCall_ret (L := [0]) rfl rfl rfl (nameR_spec X hk hW _ rfl) rfl rfl rfl rfl ?_
  refine hK _ ?_; clear hK hp K pan; refine awp_norm [0, 4, 5] rfl rfl ?_; refine awp_seq ?_; refine rgn fun pan K hp hK => ?_; refine hK _ ?_; clear hK hp K pan; refine awp_norm [0, 4, 5] rfl rfl ?_
  refine awp_accCell 2 3 143 4 rfl rfl rfl rfl ?_
  refine awp_norm [0, 4, 5] rfl rfl ?_; refine awp_seq ?_; refine rgn fun pan K hp hK => ?_; show aCall _ _ _ _ _ _ _
  refine aCall_ret (L := [0]) rfl rfl rfl (hasR_spec (nameW W X).2 (nameW_k hk) hW ⟨#[91]⟩ _ rfl) rfl rfl rfl rfl ?_
  refine hK _ ?_; clear hK hp K pan; refine awp_norm [0, 4, 5, 7] rfl rfl ?_; refine awp_seq ?_; refine awp_seq ?_; refine rgn fun pan K hp hK => ?_; refine hK _ ?_; clear hK hp K pan; refine awp_norm [0, 4, 5, 7, 26] rfl rfl ?_
  refine awp_cond2 rfl (onB_intro (fun h6 => ?_) (fun h6 => ?_))
  · exact absurd (h6.symm.trans hLB) (by decide)
  refine awp_skip ?_; refine awp_seq ?_; refine rgn fun pan K hp hK => ?_; show aCall _ _ _ _ _ _ _
  refine aCall_ret (L := [0]) rfl rfl rfl (wantR_spec (hasW W ⟨#[91]⟩ (nameW W X).2).2 (hasW_k (nameW_k hk)) hW ⟨#[61]⟩ _ rfl) rfl rfl rfl rfl ?_
  refine hK _ ?_; clear hK hp K pan; refine awp_norm [0, 4, 5, 7] rfl rfl ?_; refine awp_seq ?_; refine rgn fun pan K hp hK => ?_
  refine onB_intro (fun h7 => ?_) (fun h7 => ?_)
  · show aCall _ _ _ _ _ _ _
    refine aCall_ret (L := [0]) rfl rfl rfl (hasR_spec (wantW W ⟨#[61]⟩ (hasW W ⟨#[91]⟩ (nameW W X).2).2) (wantW_k (hasW_k (nameW_k hk))) hW ⟨#[99, 97, 108, 108]⟩ _ rfl) rfl rfl rfl rfl ?_
    refine hK _ ?_; clear hK hp K pan; refine awp_norm [0, 4, 5, 10] rfl rfl ?_; refine awp_seq ?_; refine awp_seq ?_; refine rgn fun pan K hp hK => ?_; refine hK _ ?_; clear hK hp K pan; refine awp_norm [0, 4, 5, 48] rfl rfl ?_
    refine awp_cond2 rfl (onB_intro (fun h8 => ?_) (fun h8 => ?_))
    · refine awp_seq ?_; refine rgn fun pan K hp hK => ?_; show aCall _ _ _ _ _ _ _
      cases hr1 : termQ W n 1 (hasW W ⟨#[99, 97, 108, 108]⟩ (wantW W ⟨#[61]⟩ (hasW W ⟨#[91]⟩ (nameW W X).2).2)).2 with
      | none => simp only [stmtQ, hIF, hWH, hAS, hAU, hRD, hLB, hCA, hr1, Option.bind_none, Bool.or_self] at hG <;> cases hG
      | some r1 =>
        obtain ⟨⟨o1, n1, m1, l1⟩, Y1⟩ := r1
        obtain ⟨hk1, sp1⟩ := te_both ((termsW_ok hW n).2.2) (hasW_k (wantW_k (hasW_k (nameW_k hk)))) hr1
        refine aCall_ret (L := [0]) rfl rfl rfl sp1 rfl rfl rfl rfl ?_
        refine hK _ ?_; clear hK hp K pan; refine awp_norm [0, 4, 5, 11] rfl rfl ?_; refine awp_seq ?_; refine rgn fun pan K hp hK => ?_
        refine And.intro (And.intro ((by simp only [List.length_nil, chunk_length]; omega)) ((by simp only [List.length_nil, chunk_length, maxLen]; omega))) ?_
        refine hK _ ?_; clear hK hp K pan; refine awp_norm [0, 4, 5, 12] rfl rfl ?_; refine awp_seq ?_; refine rgn fun pan K hp hK => ?_; refine hK _ ?_; clear hK hp K pan; refine awp_norm [0, 4, 5] rfl rfl ?_
        refine awp_exit ?_
        refine awp_norm [0, 4, 5] rfl rfl ?_; refine awp_seq ?_; refine rgn fun pan K hp hK => ?_; show aCall _ _ _ _ _ _ _
        refine aCall_ret (L := [0]) rfl rfl rfl (wantR_spec Y1 hk1 hW ⟨#[59]⟩ _ rfl) rfl rfl rfl rfl ?_
        refine hK _ ?_; clear hK hp K pan; refine awp_norm [4, 5] rfl rfl ?_; refine awp_seq ?_; refine rgn fun pan K hp hK => ?_; refine hK _ ?_; clear hK hp K pan; refine awp_norm [4] rfl rfl ?_; refine awp_ret ?_
        simp only [stmtQ, hIF, hWH, hAS, hAU, hRD, hLB, hCA, hr1, Option.bind_some, Option.some.injEq, Bool.or_self] at hG
        subst hG
        exact ⟨_, [0], _, [encM _], rfl, rfl, rfl, rfl, rfl, (by first | exact PWs.refl _ | (refine PWs.cons (PW.d ?_) PWs.nil; repeat (first | exact DW.refl _ | refine DW.agg ?_ | refine DWs.cons ?_ ?_ | exact DWs.nil | exact DW.nil _))), rfl⟩
    have e : (hasW W ⟨#[99, 97, 108, 108]⟩ (wantW W ⟨#[61]⟩ (hasW W ⟨#[91]⟩ (nameW W X).2).2)).1 = true := by simpa using h8
    exact absurd (e.symm.trans hCA) (by decide)
  have e : (hasW W ⟨#[91]⟩ (nameW W X).2).1 = true := by simpa using h7
  exact absurd (e.symm.trans hLB) (by decide)
theorem stQ_call (hW : WOk W) (n : Nat) (hn : n ≤ 1000000) (ihB : ∀ m, m ≤ n → BlQ G W m) (d : Int) (X : RSt) (hk : X.k < W.length) (r : Sm × RSt) (hG : stmtQ W (n + 1) d X = some r) (hIF : eqW (wrd W X) ⟨#[105, 102]⟩ = false) (hWH : eqW (wrd W X) ⟨#[119, 104, 105, 108, 101]⟩ = false) (hAS : eqW (wrd W X) ⟨#[97, 115, 115, 101, 114, 116]⟩ = false) (hAU : eqW (wrd W X) ⟨#[97, 115, 115, 117, 109, 101]⟩ = false) (hRD : eqW (wrd W X) ⟨#[114, 101, 97, 100]⟩ = false) (hLB : (hasW W ⟨#[91]⟩ (nameW W X).2).1 = false) (hCA : (hasW W ⟨#[99, 97, 108, 108]⟩ (wantW W ⟨#[61]⟩ (hasW W ⟨#[91]⟩ (nameW W X).2).2)).1 = true) : Spec Tryz.prog G 144 [.box 0 0, .d (num d)] [PB W X] (.ret (encM r.1)) [PB W r.2] := by
  refine spec_of_awp2 TT_ok (N := 137) Tryz.func144 rfl (by rfl) (Nat.le_refl _) rfl ?_
  refine awp_seq ?_; refine rgn fun pan K hp hK => ?_; refine hK _ ?_; clear hK hp K pan; refine awp_norm [0, 1, 4] rfl rfl ?_; refine awp_seq ?_; refine rgn fun pan K hp hK => ?_; show aCall _ _ _ _ _ _ _
  refine aCall_ret (L := [0]) rfl rfl rfl (wordR_spec X hk _ rfl) rfl rfl rfl rfl ?_
  refine hK _ ?_; clear hK hp K pan; refine awp_norm [0, 1, 4, 5] rfl rfl ?_; refine awp_seq ?_; refine awp_seq ?_; refine rgn fun pan K hp hK => ?_; refine hK _ ?_; clear hK hp K pan; refine awp_norm [0, 1, 4, 5, 19] rfl rfl ?_; refine awp_block ?_; refine awp_seq ?_; refine awp_seq ?_; refine rgn fun pan K hp hK => ?_; refine hK _ ?_; clear hK hp K pan; refine awp_norm [0, 1, 4, 5, 19, 92] rfl rfl ?_
  refine awp_cond2 rfl (onB_intro (fun h1 => ?_) (fun h1 => ?_))
  · exact absurd (h1.symm.trans hIF) (by decide)
  refine rgn fun pan K hp hK => ?_; refine hK _ ?_; clear hK hp K pan; refine awp_norm [0, 1, 4, 5, 19, 92] rfl rfl ?_
  refine awp_cond2 rfl (onB_intro (fun h2 => ?_) (fun h2 => ?_))
  · exact absurd (h2.symm.trans hWH) (by decide)
  refine awp_seq ?_; refine awp_seq ?_; refine rgn fun pan K hp hK => ?_; refine hK _ ?_; clear hK hp K pan; refine awp_norm [0, 4, 5, 19, 119] rfl rfl ?_
  refine awp_cond2 rfl (onB_intro (fun h3 => ?_) (fun h3 => ?_))
  · exact absurd (h3.symm.trans hAS) (by decide)
  refine rgn fun pan K hp hK => ?_; refine hK _ ?_; clear hK hp K pan; refine awp_norm [0, 4, 5, 19, 119] rfl rfl ?_
  refine awp_cond2 rfl (onB_intro (fun h4 => ?_) (fun h4 => ?_))
  · exact absurd (h4.symm.trans hAU) (by decide)
  refine awp_seq ?_; refine rgn fun pan K hp hK => ?_; refine hK _ ?_; clear hK hp K pan; refine awp_norm [0, 4, 5, 127] rfl rfl ?_
  refine awp_cond2 rfl (onB_intro (fun h5 => ?_) (fun h5 => ?_))
  · exact absurd (h5.symm.trans hRD) (by decide)
  refine awp_seq ?_; refine rgn fun pan K hp hK => ?_; show aCall _ _ _ _ _ _ _
  refine aCall_ret (L := [0]) rfl rfl rfl (nameR_spec X hk hW _ rfl) rfl rfl rfl rfl ?_
  refine hK _ ?_; clear hK hp K pan; refine awp_norm [0, 4, 5] rfl rfl ?_; refine awp_seq ?_; refine rgn fun pan K hp hK => ?_; refine hK _ ?_; clear hK hp K pan; refine awp_norm [0, 4, 5] rfl rfl ?_
  refine awp_accCell 2 3 143 4 rfl rfl rfl rfl ?_
  refine awp_norm [0, 4, 5] rfl rfl ?_; refine awp_seq ?_; refine rgn fun pan K hp hK => ?_; show aCall _ _ _ _ _ _ _
  refine aCall_ret (L := [0]) rfl rfl rfl (hasR_spec (nameW W X).2 (nameW_k hk) hW ⟨#[91]⟩ _ rfl) rfl rfl rfl rfl ?_
  refine hK _ ?_; clear hK hp K pan; refine awp_norm [0, 4, 5, 7] rfl rfl ?_; refine awp_seq ?_; refine awp_seq ?_; refine rgn fun pan K hp hK => ?_; refine hK _ ?_; clear hK hp K pan; refine awp_norm [0, 4, 5, 7, 26] rfl rfl ?_
  refine awp_cond2 rfl (onB_intro (fun h6 => ?_) (fun h6 => ?_))
  · exact absurd (h6.symm.trans hLB) (by decide)
  refine awp_skip ?_; refine awp_seq ?_; refine rgn fun pan K hp hK => ?_; show aCall _ _ _ _ _ _ _
  refine aCall_ret (L := [0]) rfl rfl rfl (wantR_spec (hasW W ⟨#[91]⟩ (nameW W X).2).2 (hasW_k (nameW_k hk)) hW ⟨#[61]⟩ _ rfl) rfl rfl rfl rfl ?_
  refine hK _ ?_; clear hK hp K pan; refine awp_norm [0, 4, 5, 7] rfl rfl ?_; refine awp_seq ?_; refine rgn fun pan K hp hK => ?_
  refine onB_intro (fun h7 => ?_) (fun h7 => ?_)
  · show aCall _ _ _ _ _ _ _
    refine aCall_ret (L := [0]) rfl rfl rfl (hasR_spec (wantW W ⟨#[61]⟩ (hasW W ⟨#[91]⟩ (nameW W X).2).2) (wantW_k (hasW_k (nameW_k hk))) hW ⟨#[99, 97, 108, 108]⟩ _ rfl) rfl rfl rfl rfl ?_
    refine hK _ ?_; clear hK hp K pan; refine awp_norm [0, 4, 5, 10] rfl rfl ?_; refine awp_seq ?_; refine awp_seq ?_; refine rgn fun pan K hp hK => ?_; refine hK _ ?_; clear hK hp K pan; refine awp_norm [0, 4, 5, 48] rfl rfl ?_
    refine awp_cond2 rfl (onB_intro (fun h8 => ?_) (fun h8 => ?_))
    · have e : (hasW W ⟨#[99, 97, 108, 108]⟩ (wantW W ⟨#[61]⟩ (hasW W ⟨#[91]⟩ (nameW W X).2).2)).1 = false := by simpa using h8
      exact absurd (e.symm.trans hCA) (by decide)
    refine awp_skip ?_; refine awp_seq ?_; refine rgn fun pan K hp hK => ?_; refine hK _ ?_; clear hK hp K pan; refine awp_norm [0, 4, 5] rfl rfl ?_; refine awp_seq ?_; refine rgn fun pan K hp hK => ?_; show aCall _ _ _ _ _ _ _
    refine aCall_ret (L := [0]) rfl rfl rfl (nameR_spec (hasW W ⟨#[99, 97, 108, 108]⟩ (wantW W ⟨#[61]⟩ (hasW W ⟨#[91]⟩ (nameW W X).2).2)).2 (hasW_k (wantW_k (hasW_k (nameW_k hk)))) hW _ rfl) rfl rfl rfl rfl ?_
    refine hK _ ?_; clear hK hp K pan; refine awp_norm [0, 4, 5] rfl rfl ?_; refine awp_seq ?_; refine rgn fun pan K hp hK => ?_; show aCall _ _ _ _ _ _ _
    refine aCall_ret (L := [0]) rfl rfl rfl (wantR_spec (nameW W (hasW W ⟨#[99, 97, 108, 108]⟩ (wantW W ⟨#[61]⟩ (hasW W ⟨#[91]⟩ (nameW W X).2).2)).2).2 (nameW_k (hasW_k (wantW_k (hasW_k (nameW_k hk))))) hW ⟨#[40]⟩ _ rfl) rfl rfl rfl rfl ?_
    refine hK _ ?_; clear hK hp K pan; refine awp_norm [0, 4, 5] rfl rfl ?_
    obtain ⟨q, hq⟩ : ∃ q, argsQ W n n [] (wantW W ⟨#[40]⟩ (nameW W (hasW W ⟨#[99, 97, 108, 108]⟩ (wantW W ⟨#[61]⟩ (hasW W ⟨#[91]⟩ (nameW W X).2).2)).2).2) = some q := by
      cases hq : argsQ W n n [] (wantW W ⟨#[40]⟩ (nameW W (hasW W ⟨#[99, 97, 108, 108]⟩ (wantW W ⟨#[61]⟩ (hasW W ⟨#[91]⟩ (nameW W X).2).2)).2).2) with
      | none => simp only [stmtQ, hIF, hWH, hAS, hAU, hRD, hLB, hCA, hq, Option.bind_none] at hG <;> cases hG
      | some q => exact ⟨q, rfl⟩
    have hkq := argK W n n _ _ (wantW_k (nameW_k (hasW_k (wantW_k (hasW_k (nameW_k hk)))))) q hq
    refine awp_cut (fun Q => Q = ⟨[(0, .box 0 0), (4, .box 1 0), (5, .box 2 0)], [PB W q.2, .box 228 zS, .box 228 [.d (str ⟨#[99, 97, 108, 108]⟩), .d (str (nameW W X).1), .d (str (nameW W (hasW W ⟨#[99, 97, 108, 108]⟩ (wantW W ⟨#[61]⟩ (hasW W ⟨#[91]⟩ (nameW W X).2).2)).2).1), .acc 3, nilC, nilC, nilC], .acc 143 4 (exs q.1)]⟩) ?_ ?_
    · refine awp_block ?_
      refine awp_loop (fun k Y => ∃ (acc : List Ex) (Z : RSt), acc.length + k ≤ n ∧ Z.k < W.length ∧ argsQ W n k acc Z = some q ∧ Y = ⟨[(0, .box 0 0), (4, .box 1 0), (5, .box 2 0)], [PB W Z, .box 228 zS, .box 228 [.d (str ⟨#[99, 97, 108, 108]⟩), .d (str (nameW W X).1), .d (str (nameW W (hasW W ⟨#[99, 97, 108, 108]⟩ (wantW W ⟨#[61]⟩ (hasW W ⟨#[91]⟩ (nameW W X).2).2)).2).1), .acc 3, nilC, nilC, nilC], .acc 143 4 (exs acc)]⟩) (n) (⟨[], _, by simp, (wantW_k (nameW_k (hasW_k (wantW_k (hasW_k (nameW_k hk)))))), hq, rfl⟩) ?_
      rintro k Y ⟨acc, Z, hkn, hkZ, hA, rfl⟩
      obtain ⟨m, rfl⟩ : ∃ m, k = m + 1 := by
        cases k with
        | zero => simp [argsQ] at hA
        | succ m => exact ⟨m, rfl⟩
      refine awp_seq ?_; refine awp_seq ?_; refine rgn fun pan K hp hK => ?_
      refine onB_intro (fun h9 => ?_) (fun h9 => ?_)
      · have eh9 : (Z.c == 0) = true := h9
        show aCall _ _ _ _ _ _ _
        refine aCall_ret (L := [0]) rfl rfl rfl (wordR_spec Z hkZ _ rfl) rfl rfl rfl rfl ?_
        refine hK _ ?_; clear hK hp K pan; refine awp_norm [0, 4, 5, 74] rfl rfl ?_
        refine awp_cond2 rfl (onB_intro (fun h10 => ?_) (fun h10 => ?_))
        · have eh10 : eqW (wrd W Z) ⟨#[41]⟩ = false := by simpa [eqW] using h10
          refine awp_skip ?_; refine awp_block ?_
          refine awp_cut (fun Q => Q = ⟨[(0, .box 0 0), (4, .box 1 0), (5, .box 2 0)], [PB W (sepQ W acc Z), .box 228 zS, .box 228 [.d (str ⟨#[99, 97, 108, 108]⟩), .d (str (nameW W X).1), .d (str (nameW W (hasW W ⟨#[99, 97, 108, 108]⟩ (wantW W ⟨#[61]⟩ (hasW W ⟨#[91]⟩ (nameW W X).2).2)).2).1), .acc 3, nilC, nilC, nilC], .acc 143 4 (exs acc)]⟩) ?_ ?_
          · refine awp_seq ?_; refine rgn fun pan K hp hK => ?_; refine hK _ ?_; clear hK hp K pan; refine awp_norm [0, 4, 5, 78] rfl rfl ?_
            refine awp_cond2 rfl (onB_intro (fun h11 => ?_) (fun h11 => ?_))
            · have eh11 : decide (((exs acc).length : Int) > 0) = true := h11
              rw [ex_len] at eh11
              refine rgn fun pan K hp hK => ?_; show aCall _ _ _ _ _ _ _
              refine aCall_ret (L := [0]) rfl rfl rfl (wantR_spec Z hkZ hW ⟨#[44]⟩ _ rfl) rfl rfl rfl rfl ?_
              refine hK _ ?_; clear hK hp K pan
              have es : sepQ W acc Z = wantW W ⟨#[44]⟩ Z := by unfold sepQ; rw [eh11]
              rw [es]
              exact ⟨_, sub_norm (slots := [0, 4, 5]) rfl rfl, rfl⟩
            have eh11 : decide (((exs acc).length : Int) > 0) = false := h11
            rw [ex_len] at eh11
            refine awp_skip ?_
            have es : sepQ W acc Z = Z := by unfold sepQ; rw [eh11]
            rw [es]
            exact ⟨_, sub_norm (slots := [0, 4, 5]) rfl rfl, rfl⟩
          rintro Q rfl
          refine awp_seq ?_; refine rgn fun pan K hp hK => ?_; show aCall _ _ _ _ _ _ _
          cases hr1 : termQ W n 1 (sepQ W acc Z) with
          | none => simp only [argsQ, h9, eh10, hr1, Option.bind_none, Bool.not_false, Bool.and_self] at hA <;> cases hA
          | some r1 =>
            obtain ⟨⟨o1, n1, m1, l1⟩, Y1⟩ := r1
            obtain ⟨hk1, sp1⟩ := te_both ((termsW_ok hW n).2.2) (sepQ_k hkZ) hr1
            refine aCall_ret (L := [0]) rfl rfl rfl sp1 rfl rfl rfl rfl ?_
            refine hK _ ?_; clear hK hp K pan; refine awp_norm [0, 4, 5, 13] rfl rfl ?_; refine awp_seq ?_; refine rgn fun pan K hp hK => ?_
            refine And.intro (And.intro ((by simp only [ex_len, chunk_length]; omega)) ((by simp only [ex_len, chunk_length, maxLen]; omega))) ?_
            refine hK _ ?_; clear hK hp K pan; refine awp_norm [0, 4, 5, 14] rfl rfl ?_; refine rgn fun pan K hp hK => ?_; refine hK _ ?_; clear hK hp K pan
            simp only [argsQ, eh9, eh10, hr1, Option.bind_some, Bool.not_false, Bool.and_self] at hA
            exact ⟨m, Nat.lt_succ_self m, _, sub_pick (L := [0, 1, 2, 3]) (slots := [0, 4, 5]) rfl rfl rfl rfl rfl, acc ++ [.mk o1 n1 m1 l1], _, by simp only [List.length_append, List.length_cons, List.length_nil]; omega, hk1, hA, by rw [← exs_snoc]; rfl⟩
        have eh10 : eqW (wrd W Z) ⟨#[41]⟩ = true := by simpa [eqW] using h10
        refine awp_exit ?_
        simp only [argsQ, eh9, eh10, Bool.not_true, Bool.and_false, Option.some.injEq] at hA
        subst hA
        exact ⟨_, sub_norm (slots := [0, 4, 5]) rfl rfl, rfl⟩
      have eh9 : (Z.c == 0) = false := h9
      refine hK _ ?_; clear hK hp K pan; refine awp_norm [0, 4, 5, 74] rfl rfl ?_; refine awp_cond rfl ?_
      refine awp_exit ?_
      simp only [argsQ, eh9, Bool.false_and, Option.some.injEq] at hA
      subst hA
      exact ⟨_, sub_norm (slots := [0, 4, 5]) rfl rfl, rfl⟩
    rintro Q rfl
    refine rgn fun pan K hp hK => ?_; show aCall _ _ _ _ _ _ _
    refine aCall_ret (L := [0]) rfl rfl rfl (wantR_spec q.2 hkq hW ⟨#[41]⟩ _ rfl) rfl rfl rfl rfl ?_
    refine hK _ ?_; clear hK hp K pan; refine awp_norm [0, 4, 5] rfl rfl ?_; refine awp_seq ?_; refine rgn fun pan K hp hK => ?_; show aCall _ _ _ _ _ _ _
    refine aCall_ret (L := [0]) rfl rfl rfl (wantR_spec (wantW W ⟨#[41]⟩ q.2) (wantW_k hkq) hW ⟨#[59]⟩ _ rfl) rfl rfl rfl rfl ?_
    refine hK _ ?_; clear hK hp K pan; refine awp_norm [4, 5] rfl rfl ?_; refine awp_seq ?_; refine rgn fun pan K hp hK => ?_; refine hK _ ?_; clear hK hp K pan; refine awp_norm [4] rfl rfl ?_; refine awp_ret ?_
    simp only [stmtQ, hIF, hWH, hAS, hAU, hRD, hLB, hCA, hq, Option.bind_some, Option.some.injEq, Bool.or_self] at hG
    subst hG
    exact ⟨_, [0], _, [encM _], rfl, rfl, rfl, rfl, rfl, (by first | exact PWs.refl _ | (refine PWs.cons (PW.d ?_) PWs.nil; repeat (first | exact DW.refl _ | refine DW.agg ?_ | refine DWs.cons ?_ ?_ | exact DWs.nil | exact DW.nil _))), rfl⟩
  have e : (hasW W ⟨#[91]⟩ (nameW W X).2).1 = true := by simpa using h7
  exact absurd (e.symm.trans hLB) (by decide)
theorem stQ_step (hW : WOk W) (n : Nat) (hn : n ≤ 1000000) (ihB : ∀ m, m ≤ n → BlQ G W m) : StQ G W (n + 1) := by
  intro d X hk r hG
  cases hIF : eqW (wrd W X) ⟨#[105, 102]⟩ with
  | true => exact stQ_if hW n hn ihB d X hk r hG hIF
  | false => cases hWH : eqW (wrd W X) ⟨#[119, 104, 105, 108, 101]⟩ with
    | true => exact stQ_while hW n hn ihB d X hk r hG hIF hWH
    | false => cases hAS : eqW (wrd W X) ⟨#[97, 115, 115, 101, 114, 116]⟩ with
      | true => exact stQ_assert hW n hn ihB d X hk r hG hIF hWH hAS
      | false => cases hAU : eqW (wrd W X) ⟨#[97, 115, 115, 117, 109, 101]⟩ with
        | true => exact stQ_assume hW n hn ihB d X hk r hG hIF hWH hAS hAU
        | false => cases hRD : eqW (wrd W X) ⟨#[114, 101, 97, 100]⟩ with
          | true => exact stQ_read hW n hn ihB d X hk r hG hIF hWH hAS hAU hRD
          | false => cases hLB : (hasW W ⟨#[91]⟩ (nameW W X).2).1 with
            | true => exact stQ_put hW n hn ihB d X hk r hG hIF hWH hAS hAU hRD hLB
            | false => cases hCA : (hasW W ⟨#[99, 97, 108, 108]⟩ (wantW W ⟨#[61]⟩ (hasW W ⟨#[91]⟩ (nameW W X).2).2)).1 with
              | true => exact stQ_call hW n hn ihB d X hk r hG hIF hWH hAS hAU hRD hLB hCA
              | false => exact stQ_set hW n hn ihB d X hk r hG hIF hWH hAS hAU hRD hLB hCA
theorem smQ_ok (hW : WOk W) : ∀ n, n ≤ 1000000 → StQ G W n ∧ BlQ G W n ∧ SsQ G W n := by
  intro n
  induction n using Nat.strongRecOn with
  | _ n ih =>
    intro hn
    cases n with
    | zero => exact ⟨fun d X _ r h => by simp [stmtQ] at h, fun d X _ r h => by simp [blkQ] at h, fun d X _ r h => by simp [stmtsQ] at h⟩
    | succ n => exact ⟨stQ_step hW n (by omega) (fun m hm => (ih m (by omega) (by omega)).2.1), blQ_step hW n (fun m hm => (ih m (by omega) (by omega)).2.2), ssQ_step hW n (by omega) (fun m hm => (ih m (by omega) (by omega)).1)⟩
end
end Go.Abs
end
section
namespace Go.Abs
open Go Go.Proofs
attribute [local irreducible] aCall AWp Sub Spec
def varsQ (W : List Wd) : Nat → List ByteArray → RSt → Option (List ByteArray × RSt)
  | 0, _, _ => none
  | f + 1, acc, X => match (hasW W ⟨#[118, 97, 114]⟩ X).1 with
    | false => some (acc, (hasW W ⟨#[118, 97, 114]⟩ X).2)
    | true => varsQ W f (acc ++ [(nameW W (hasW W ⟨#[118, 97, 114]⟩ X).2).1]) (wantW W ⟨#[59]⟩ (nameW W (hasW W ⟨#[118, 97, 114]⟩ X).2).2)
def arrN (W : List Wd) (X : RSt) : RSt := wantW W ⟨#[91]⟩ (nameW W (hasW W ⟨#[97, 114, 114, 97, 121]⟩ X).2).2
def arrsQ (W : List Wd) : Nat → List Ar → RSt → Option (List Ar × RSt)
  | 0, _, _ => none
  | f + 1, acc, X => match (hasW W ⟨#[97, 114, 114, 97, 121]⟩ X).1 with
    | false => some (acc, (hasW W ⟨#[97, 114, 114, 97, 121]⟩ X).2)
    | true => arrsQ W f (acc ++ [⟨(nameW W (hasW W ⟨#[97, 114, 114, 97, 121]⟩ X).2).1, (numW W (arrN W X)).1⟩]) (wantW W ⟨#[59]⟩ (wantW W ⟨#[93]⟩ (numW W (arrN W X)).2))
def sepV (W : List Wd) (acc : List ByteArray) (X : RSt) : RSt := match decide ((acc.length : Int) > 0) with
  | true => wantW W ⟨#[44]⟩ X
  | false => X
theorem sepV_k {W : List Wd} {acc : List ByteArray} {X : RSt} (h : X.k < W.length) : (sepV W acc X).k < W.length := by
  unfold sepV
  cases decide ((acc.length : Int) > 0) with
  | true => exact wantW_k h
  | false => exact h
def prmsQ (W : List Wd) : Nat → List ByteArray → RSt → Option (List ByteArray × RSt)
  | 0, _, _ => none
  | f + 1, acc, X => match ((X.c == 0) && !eqW (wrd W X) ⟨#[41]⟩) with
    | false => some (acc, X)
    | true => prmsQ W f (acc ++ [(nameW W (sepV W acc X)).1]) (nameW W (sepV W acc X)).2
def procN (W : List Wd) (X : RSt) : RSt := wantW W ⟨#[40]⟩ (nameW W (hasW W ⟨#[112, 114, 111, 99]⟩ X).2).2
def procsQ (W : List Wd) (n : Nat) : Nat → List Pc → RSt → Option (List Pc × RSt)
  | 0, _, _ => none
  | f + 1, acc, X => match (hasW W ⟨#[112, 114, 111, 99]⟩ X).1 with
    | false => some (acc, (hasW W ⟨#[112, 114, 111, 99]⟩ X).2)
    | true => (prmsQ W n [] (procN W X)).bind fun p => (stmtsQ W n 1 [] (wantW W ⟨#[123]⟩ (wantW W ⟨#[41]⟩ p.2))).bind fun b => (termQ W n 1 (wantW W ⟨#[114, 101, 116, 117, 114, 110]⟩ b.2)).bind fun e => procsQ W n f (acc ++ [⟨(nameW W (hasW W ⟨#[112, 114, 111, 99]⟩ X).2).1, p.1, b.1, e.1⟩]) (wantW W ⟨#[125]⟩ (wantW W ⟨#[59]⟩ e.2))
def endQ (W : List Wd) (X : RSt) : RSt := match ((X.c == 0) && !eqW (wrd W X) ⟨#[]⟩) with
  | true => failW W 1 X
  | false => X
def readQ (W : List Wd) (n : Nat) : Option (Pg × RSt) := (varsQ W n [] ⟨0, 0, 0⟩).bind fun v => (arrsQ W n [] v.2).bind fun a => (procsQ W n n [] a.2).bind fun f => (blkQ W n 1 (wantW W ⟨#[109, 97, 105, 110]⟩ f.2)).bind fun m => some (⟨v.1, a.1, f.1, m.1⟩, endQ W m.2)
theorem varK (W : List Wd) : ∀ (f : Nat) (acc : List ByteArray) (X : RSt), X.k < W.length → KP W (varsQ W f acc X)
  | 0, acc, X, h => fun r hr => by simp [varsQ] at hr
  | f + 1, acc, X, h => by
    simp only [varsQ]
    split
    · exact KP.some (hasW_k h)
    exact varK W f _ _ (wantW_k (nameW_k (hasW_k h)))
theorem arrN_k {W : List Wd} {X : RSt} (h : X.k < W.length) : (arrN W X).k < W.length := wantW_k (nameW_k (hasW_k h))
theorem procN_k {W : List Wd} {X : RSt} (h : X.k < W.length) : (procN W X).k < W.length := wantW_k (nameW_k (hasW_k h))
theorem arrK (W : List Wd) : ∀ (f : Nat) (acc : List Ar) (X : RSt), X.k < W.length → KP W (arrsQ W f acc X)
  | 0, acc, X, h => fun r hr => by simp [arrsQ] at hr
  | f + 1, acc, X, h => by
    simp only [arrsQ]
    split
    · exact KP.some (hasW_k h)
    exact arrK W f _ _ (wantW_k (wantW_k (numW_k (arrN_k h))))
theorem prmK (W : List Wd) : ∀ (f : Nat) (acc : List ByteArray) (X : RSt), X.k < W.length → KP W (prmsQ W f acc X)
  | 0, acc, X, h => fun r hr => by simp [prmsQ] at hr
  | f + 1, acc, X, h => by
    simp only [prmsQ]
    split
    · exact KP.some h
    exact prmK W f _ _ (nameW_k (sepV_k h))
theorem prcK (W : List Wd) (n : Nat) : ∀ (f : Nat) (acc : List Pc) (X : RSt), X.k < W.length → KP W (procsQ W n f acc X)
  | 0, acc, X, h => fun r hr => by simp [procsQ] at hr
  | f + 1, acc, X, h => by
    simp only [procsQ]
    split
    · exact KP.some (hasW_k h)
    exact (prmK W n _ _ (procN_k h)).bind fun p hp => ((smK W n).1 _ _ _ (wantW_k (wantW_k hp))).bind fun b hb => ((exK W n).2.2.2.1 _ _ (wantW_k hb)).bind fun e he => prcK W n f _ _ (wantW_k (wantW_k he))
def finQ (r : Pg × RSt) : Pg × Int × Int := match decide (r.2.c > 0) with
  | true => (zPg, r.2.c, r.2.a)
  | false => (r.1, 0, -1)
section
variable {G : Glob} {W : List Wd}
def p17_37 : Plan := (.take 1 (.take 2 (.take 3 (.load 4 (.one 0 (.one 5 (.one 6 .done)))))))
theorem readQ_spec (s : ByteArray) (hs4 : s.size ≤ 4000) (f0 : Nat) (hw : wordsR s f0 0 [] = some W) (hW : WOk W) (hk0 : 0 < W.length) (n : Nat) (hn : n ≤ 1000000) (r : Pg × RSt) (hG : readQ W n = some r) : Spec Tryz.prog G 17 [.d (str s)] [] (.ret (.tup [encP (finQ r).1, .d (.agg [num (finQ r).2.1, num (finQ r).2.2])])) [] := by
  refine spec_of_awp2 TT_ok (N := 138) Tryz.func17 rfl (by rfl) (Nat.le_refl _) rfl ?_
  refine awp_seq ?_; refine rgn fun pan K hp hK => ?_; refine hK _ ?_; clear hK hp K pan; refine awp_norm [0, 2, 3] rfl rfl ?_; refine awp_seq ?_; refine rgn fun pan K hp hK => ?_; refine hK _ ?_; clear hK hp K pan; refine awp_norm [0, 2, 3, 4] rfl rfl ?_; refine awp_seq ?_; refine awp_seq ?_; refine rgn fun pan K hp hK => ?_; refine hK _ ?_; clear hK hp K pan; refine awp_norm [0, 2, 3, 4, 14] rfl rfl ?_
  refine awp_cond2 rfl (onB_intro (fun h1 => ?_) (fun h1 => ?_))
  · have := of_decide_eq_true h1
    omega
  have := of_decide_eq_false h1
  refine awp_skip ?_; refine awp_seq ?_; refine rgn fun pan K hp hK => ?_; show aCall _ _ _ _ _ _ _
  refine aCall_ret (L := []) rfl rfl rfl (words_specR G s hs4 f0 W hw) rfl rfl rfl rfl ?_
  refine hK _ ?_; clear hK hp K pan; refine awp_norm [2, 3, 4, 5] rfl rfl ?_
  refine awp_accCell 2 0 9 1 rfl rfl rfl rfl ?_
  refine awp_accCell 2 1 99 2 rfl rfl rfl rfl ?_
  refine awp_accCell 2 2 145 7 rfl rfl rfl rfl ?_
  refine awp_norm [2, 3, 4, 5] rfl rfl ?_
  obtain ⟨q1, hq1⟩ : ∃ q, varsQ W n [] ⟨0, 0, 0⟩ = some q := by
    cases hq : varsQ W n [] ⟨0, 0, 0⟩ with
    | none => simp only [readQ, hq, Option.bind_none] at hG <;> cases hG
    | some q => exact ⟨q, rfl⟩
  simp only [readQ, hq1, Option.bind_some] at hG
  have hkq1 := varK W n _ _ hk0 q1 hq1
  refine awp_cut (fun Q => Q = ⟨[(2, .box 0 0), (3, .box 1 0), (4, .box 2 0), (5, .box 3 0)], [.box 37 zP, .box 39 [.d (num 0), .d (num 0)], .box 37 [.acc 4, .acc 5, .acc 6, nilC], PB W q1.2, .acc 9 1 (strs q1.1), .acc 99 2 (ars []), .acc 145 7 (pcs [])]⟩) ?_ ?_
  · refine awp_block ?_
    refine awp_loop (fun k Y => ∃ (acc : List ByteArray) (Z : RSt), acc.length + k ≤ n ∧ Z.k < W.length ∧ varsQ W k acc Z = some q1 ∧ Y = ⟨[(2, .box 0 0), (3, .box 1 0), (4, .box 2 0), (5, .box 3 0)], [.box 37 zP, .box 39 [.d (num 0), .d (num 0)], .box 37 [.acc 4, .acc 5, .acc 6, nilC], PB W Z, .acc 9 1 (strs acc), .acc 99 2 (ars []), .acc 145 7 (pcs [])]⟩) (n) (⟨[], _, by simp, hk0, hq1, rfl⟩) ?_
    rintro k Y ⟨acc, Z, hkn, hkZ, hA, rfl⟩
    obtain ⟨m, rfl⟩ : ∃ m, k = m + 1 := by
      cases k with
      | zero => simp [varsQ] at hA
      | succ m => exact ⟨m, rfl⟩
    refine awp_seq ?_; refine awp_seq ?_; refine rgn fun pan K hp hK => ?_; show aCall _ _ _ _ _ _ _
    refine aCall_ret (L := [3]) rfl rfl rfl (hasR_spec Z hkZ hW ⟨#[118, 97, 114]⟩ _ rfl) rfl rfl rfl rfl ?_
    refine hK _ ?_; clear hK hp K pan; refine awp_norm [2, 3, 4, 5, 22] rfl rfl ?_
    refine awp_cond2 rfl (onB_intro (fun h2 => ?_) (fun h2 => ?_))
    · have eh2 : (hasW W ⟨#[118, 97, 114]⟩ Z).1 = true := h2
      refine awp_skip ?_; refine awp_block ?_; refine awp_seq ?_; refine rgn fun pan K hp hK => ?_; show aCall _ _ _ _ _ _ _
      refine aCall_ret (L := [3]) rfl rfl rfl (nameR_spec (hasW W ⟨#[118, 97, 114]⟩ Z).2 (hasW_k hkZ) hW _ rfl) rfl rfl rfl rfl ?_
      refine hK _ ?_; clear hK hp K pan; refine awp_norm [2, 3, 4, 5, 6] rfl rfl ?_; refine awp_seq ?_; refine rgn fun pan K hp hK => ?_
      refine And.intro (And.intro ((by simp only [strs_length, chunk_length]; omega)) ((by simp only [strs_length, chunk_length, maxLen]; omega))) ?_
      refine hK _ ?_; clear hK hp K pan; refine awp_norm [2, 3, 4, 5] rfl rfl ?_; refine rgn fun pan K hp hK => ?_; show aCall _ _ _ _ _ _ _
      refine aCall_ret (L := [3]) rfl rfl rfl (wantR_spec (nameW W (hasW W ⟨#[118, 97, 114]⟩ Z).2).2 (nameW_k (hasW_k hkZ)) hW ⟨#[59]⟩ _ rfl) rfl rfl rfl rfl ?_
      refine hK _ ?_; clear hK hp K pan
      simp only [varsQ, eh2] at hA
      exact ⟨m, Nat.lt_succ_self m, _, sub_pick (L := [0, 1, 2, 3, 4, 5, 6]) (slots := [2, 3, 4, 5]) rfl rfl rfl rfl rfl, acc ++ [(nameW W (hasW W ⟨#[118, 97, 114]⟩ Z).2).1], _, by simp only [List.length_append, List.length_cons, List.length_nil]; omega, wantW_k (nameW_k (hasW_k hkZ)), hA, by rw [← strs_snoc]; rfl⟩
    have eh2 : (hasW W ⟨#[118, 97, 114]⟩ Z).1 = false := h2
    refine awp_exit ?_
    simp only [varsQ, eh2, Option.some.injEq] at hA
    subst hA
    exact ⟨_, sub_norm (slots := [2, 3, 4, 5]) rfl rfl, rfl⟩
  rintro Q rfl
  obtain ⟨q2, hq2⟩ : ∃ q, arrsQ W n [] q1.2 = some q := by
    cases hq : arrsQ W n [] q1.2 with
    | none => simp only [hq, Option.bind_none] at hG <;> cases hG
    | some q => exact ⟨q, rfl⟩
  simp only [hq2, Option.bind_some] at hG
  have hkq2 := arrK W n _ _ hkq1 q2 hq2
  refine awp_cut (fun Q => Q = ⟨[(2, .box 0 0), (3, .box 1 0), (4, .box 2 0), (5, .box 3 0)], [.box 37 zP, .box 39 [.d (num 0), .d (num 0)], .box 37 [.acc 4, .acc 5, .acc 6, nilC], PB W q2.2, .acc 9 1 (strs q1.1), .acc 99 2 (ars q2.1), .acc 145 7 (pcs [])]⟩) ?_ ?_
  · refine awp_block ?_
    refine awp_loop (fun k Y => ∃ (acc : List Ar) (Z : RSt), acc.length + k ≤ n ∧ Z.k < W.length ∧ arrsQ W k acc Z = some q2 ∧ Y = ⟨[(2, .box 0 0), (3, .box 1 0), (4, .box 2 0), (5, .box 3 0)], [.box 37 zP, .box 39 [.d (num 0), .d (num 0)], .box 37 [.acc 4, .acc 5, .acc 6, nilC], PB W Z, .acc 9 1 (strs q1.1), .acc 99 2 (ars acc), .acc 145 7 (pcs [])]⟩) (n) (⟨[], _, by simp, hkq1, hq2, rfl⟩) ?_
    rintro k Y ⟨acc, Z, hkn, hkZ, hA, rfl⟩
    obtain ⟨m, rfl⟩ : ∃ m, k = m + 1 := by
      cases k with
      | zero => simp [arrsQ] at hA
      | succ m => exact ⟨m, rfl⟩
    refine awp_seq ?_; refine awp_seq ?_; refine rgn fun pan K hp hK => ?_; show aCall _ _ _ _ _ _ _
    refine aCall_ret (L := [3]) rfl rfl rfl (hasR_spec Z hkZ hW ⟨#[97, 114, 114, 97, 121]⟩ _ rfl) rfl rfl rfl rfl ?_
    refine hK _ ?_; clear hK hp K pan; refine awp_norm [2, 3, 4, 5, 34] rfl rfl ?_
    refine awp_cond2 rfl (onB_intro (fun h2 => ?_) (fun h2 => ?_))
    · have eh2 : (hasW W ⟨#[97, 114, 114, 97, 121]⟩ Z).1 = true := h2
      refine awp_skip ?_; refine awp_block ?_; refine awp_seq ?_; refine rgn fun pan K hp hK => ?_; show aCall _ _ _ _ _ _ _
      refine aCall_ret (L := [3]) rfl rfl rfl (nameR_spec (hasW W ⟨#[97, 114, 114, 97, 121]⟩ Z).2 (hasW_k hkZ) hW _ rfl) rfl rfl rfl rfl ?_
      refine hK _ ?_; clear hK hp K pan; refine awp_norm [2, 3, 4, 5, 7] rfl rfl ?_; refine awp_seq ?_; refine rgn fun pan K hp hK => ?_; show aCall _ _ _ _ _ _ _
      refine aCall_ret (L := [3]) rfl rfl rfl (wantR_spec (nameW W (hasW W ⟨#[97, 114, 114, 97, 121]⟩ Z).2).2 (nameW_k (hasW_k hkZ)) hW ⟨#[91]⟩ _ rfl) rfl rfl rfl rfl ?_
      refine hK _ ?_; clear hK hp K pan; refine awp_norm [2, 3, 4, 5, 7] rfl rfl ?_; refine awp_seq ?_; refine rgn fun pan K hp hK => ?_; show aCall _ _ _ _ _ _ _
      refine aCall_ret (L := [3]) rfl rfl rfl (numR_spec (wantW W ⟨#[91]⟩ (nameW W (hasW W ⟨#[97, 114, 114, 97, 121]⟩ Z).2).2) (wantW_k (nameW_k (hasW_k hkZ))) hW _ rfl) rfl rfl rfl rfl ?_
      refine hK _ ?_; clear hK hp K pan; refine awp_norm [2, 3, 4, 5, 7, 8] rfl rfl ?_; refine awp_seq ?_; refine rgn fun pan K hp hK => ?_; show aCall _ _ _ _ _ _ _
      refine aCall_ret (L := [3]) rfl rfl rfl (wantR_spec (numW W (wantW W ⟨#[91]⟩ (nameW W (hasW W ⟨#[97, 114, 114, 97, 121]⟩ Z).2).2)).2 (numW_k (wantW_k (nameW_k (hasW_k hkZ)))) hW ⟨#[93]⟩ _ rfl) rfl rfl rfl rfl ?_
      refine hK _ ?_; clear hK hp K pan; refine awp_norm [2, 3, 4, 5, 7, 8] rfl rfl ?_; refine awp_seq ?_; refine rgn fun pan K hp hK => ?_; show aCall _ _ _ _ _ _ _
      refine aCall_ret (L := [3]) rfl rfl rfl (wantR_spec (wantW W ⟨#[93]⟩ (numW W (wantW W ⟨#[91]⟩ (nameW W (hasW W ⟨#[97, 114, 114, 97, 121]⟩ Z).2).2)).2) (wantW_k (numW_k (wantW_k (nameW_k (hasW_k hkZ))))) hW ⟨#[59]⟩ _ rfl) rfl rfl rfl rfl ?_
      refine hK _ ?_; clear hK hp K pan; refine awp_norm [2, 3, 4, 5, 7, 8] rfl rfl ?_; refine rgn fun pan K hp hK => ?_
      refine And.intro (And.intro ((by simp only [ars_length, chunk_length]; omega)) ((by simp only [ars_length, chunk_length, maxLen]; omega))) ?_
      refine hK _ ?_; clear hK hp K pan
      simp only [arrsQ, eh2] at hA
      exact ⟨m, Nat.lt_succ_self m, _, sub_pick (L := [0, 1, 2, 3, 4, 5, 6]) (slots := [2, 3, 4, 5]) rfl rfl rfl rfl rfl, acc ++ [⟨(nameW W (hasW W ⟨#[97, 114, 114, 97, 121]⟩ Z).2).1, (numW W (arrN W Z)).1⟩], _, by simp only [List.length_append, List.length_cons, List.length_nil]; omega, wantW_k (wantW_k (numW_k (arrN_k hkZ))), hA, by rw [← ars_snoc]; rfl⟩
    have eh2 : (hasW W ⟨#[97, 114, 114, 97, 121]⟩ Z).1 = false := h2
    refine awp_exit ?_
    simp only [arrsQ, eh2, Option.some.injEq] at hA
    subst hA
    exact ⟨_, sub_norm (slots := [2, 3, 4, 5]) rfl rfl, rfl⟩
  rintro Q rfl
  obtain ⟨q3, hq3⟩ : ∃ q, procsQ W n n [] q2.2 = some q := by
    cases hq : procsQ W n n [] q2.2 with
    | none => simp only [hq, Option.bind_none] at hG <;> cases hG
    | some q => exact ⟨q, rfl⟩
  simp only [hq3, Option.bind_some] at hG
  have hkq3 := prcK W n n _ _ hkq2 q3 hq3
  refine awp_cut (fun Q => Q = ⟨[(2, .box 0 0), (3, .box 1 0), (4, .box 2 0), (5, .box 3 0)], [.box 37 zP, .box 39 [.d (num 0), .d (num 0)], .box 37 [.acc 4, .acc 5, .acc 6, nilC], PB W q3.2, .acc 9 1 (strs q1.1), .acc 99 2 (ars q2.1), .acc 145 7 (pcs q3.1)]⟩) ?_ ?_
  · refine awp_block ?_
    refine awp_loop (fun k Y => ∃ (acc : List Pc) (Z : RSt), acc.length + k ≤ n ∧ Z.k < W.length ∧ procsQ W n k acc Z = some q3 ∧ Y = ⟨[(2, .box 0 0), (3, .box 1 0), (4, .box 2 0), (5, .box 3 0)], [.box 37 zP, .box 39 [.d (num 0), .d (num 0)], .box 37 [.acc 4, .acc 5, .acc 6, nilC], PB W Z, .acc 9 1 (strs q1.1), .acc 99 2 (ars q2.1), .acc 145 7 (pcs acc)]⟩) (n) (⟨[], _, by simp, hkq2, hq3, rfl⟩) ?_
    rintro k Y ⟨acc, Z, hkn, hkZ, hA, rfl⟩
    obtain ⟨m, rfl⟩ : ∃ m, k = m + 1 := by
      cases k with
      | zero => simp [procsQ] at hA
      | succ m => exact ⟨m, rfl⟩
    refine awp_seq ?_; refine awp_seq ?_; refine rgn fun pan K hp hK => ?_; show aCall _ _ _ _ _ _ _
    refine aCall_ret (L := [3]) rfl rfl rfl (hasR_spec Z hkZ hW ⟨#[112, 114, 111, 99]⟩ _ rfl) rfl rfl rfl rfl ?_
    refine hK _ ?_; clear hK hp K pan; refine awp_norm [2, 3, 4, 5, 54] rfl rfl ?_
    refine awp_cond2 rfl (onB_intro (fun h2 => ?_) (fun h2 => ?_))
    · have eh2 : (hasW W ⟨#[112, 114, 111, 99]⟩ Z).1 = true := h2
      refine awp_skip ?_; refine awp_block ?_; refine awp_seq ?_; refine rgn fun pan K hp hK => ?_; show aCall _ _ _ _ _ _ _
      refine aCall_ret (L := [3]) rfl rfl rfl (nameR_spec (hasW W ⟨#[112, 114, 111, 99]⟩ Z).2 (hasW_k hkZ) hW _ rfl) rfl rfl rfl rfl ?_
      refine hK _ ?_; clear hK hp K pan; refine awp_norm [2, 3, 4, 5, 9] rfl rfl ?_
      refine awp_accCell 7 1 9 1 rfl rfl rfl rfl ?_
      refine awp_norm [2, 3, 4, 5, 9] rfl rfl ?_; refine awp_seq ?_; refine rgn fun pan K hp hK => ?_; show aCall _ _ _ _ _ _ _
      refine aCall_ret (L := [3]) rfl rfl rfl (wantR_spec (nameW W (hasW W ⟨#[112, 114, 111, 99]⟩ Z).2).2 (nameW_k (hasW_k hkZ)) hW ⟨#[40]⟩ _ rfl) rfl rfl rfl rfl ?_
      refine hK _ ?_; clear hK hp K pan; refine awp_norm [2, 3, 4, 5, 9] rfl rfl ?_
      obtain ⟨p, hp1⟩ : ∃ q, prmsQ W n [] (procN W Z) = some q := by
        cases hq : prmsQ W n [] (procN W Z) with
        | none => simp only [procsQ, eh2, hq, Option.bind_none] at hA <;> cases hA
        | some q => exact ⟨q, rfl⟩
      have hkp := prmK W n _ _ (procN_k hkZ) p hp1
      simp only [procsQ, eh2, hp1, Option.bind_some] at hA
      refine awp_cut (fun Q => Q = ⟨[(2, .box 0 0), (3, .box 1 0), (4, .box 2 0), (5, .box 3 0), (9, .box 7 0)], [.box 37 zP, .box 39 [.d (num 0), .d (num 0)], .box 37 [.acc 4, .acc 5, .acc 6, nilC], PB W p.2, .acc 9 1 (strs q1.1), .acc 99 2 (ars q2.1), .acc 145 7 (pcs acc), .box 145 [.d (str (nameW W (hasW W ⟨#[112, 114, 111, 99]⟩ Z).2).1), .acc 8, nilC, .d (str ⟨#[]⟩), .d (num 0), .d (str ⟨#[]⟩), nilC], .acc 9 1 (strs p.1)]⟩) ?_ ?_
      · refine awp_block ?_
        refine awp_loop (fun k Y => ∃ (ps : List ByteArray) (Z2 : RSt), ps.length + k ≤ n ∧ Z2.k < W.length ∧ prmsQ W k ps Z2 = some p ∧ Y = ⟨[(2, .box 0 0), (3, .box 1 0), (4, .box 2 0), (5, .box 3 0), (9, .box 7 0)], [.box 37 zP, .box 39 [.d (num 0), .d (num 0)], .box 37 [.acc 4, .acc 5, .acc 6, nilC], PB W Z2, .acc 9 1 (strs q1.1), .acc 99 2 (ars q2.1), .acc 145 7 (pcs acc), .box 145 [.d (str (nameW W (hasW W ⟨#[112, 114, 111, 99]⟩ Z).2).1), .acc 8, nilC, .d (str ⟨#[]⟩), .d (num 0), .d (str ⟨#[]⟩), nilC], .acc 9 1 (strs ps)]⟩) (n) (⟨[], _, by simp, procN_k hkZ, hp1, rfl⟩) ?_
        rintro k Y ⟨ps, Z2, hkn2, hkZ2, hB, rfl⟩
        obtain ⟨m2, rfl⟩ : ∃ m, k = m + 1 := by
          cases k with
          | zero => simp [prmsQ] at hB
          | succ m => exact ⟨m, rfl⟩
        refine awp_seq ?_; refine awp_seq ?_; refine rgn fun pan K hp hK => ?_
        refine onB_intro (fun h3 => ?_) (fun h3 => ?_)
        · have eh3 : (Z2.c == 0) = true := h3
          show aCall _ _ _ _ _ _ _
          refine aCall_ret (L := [3]) rfl rfl rfl (wordR_spec Z2 hkZ2 _ rfl) rfl rfl rfl rfl ?_
          refine hK _ ?_; clear hK hp K pan; refine awp_norm [2, 3, 4, 5, 9, 70] rfl rfl ?_
          refine awp_cond2 rfl (onB_intro (fun h4 => ?_) (fun h4 => ?_))
          · have eh4 : eqW (wrd W Z2) ⟨#[41]⟩ = false := by simpa [eqW] using h4
            refine awp_skip ?_; refine awp_block ?_
            refine awp_cut (fun Q => Q = ⟨[(2, .box 0 0), (3, .box 1 0), (4, .box 2 0), (5, .box 3 0), (9, .box 7 0)], [.box 37 zP, .box 39 [.d (num 0), .d (num 0)], .box 37 [.acc 4, .acc 5, .acc 6, nilC], PB W (sepV W ps Z2), .acc 9 1 (strs q1.1), .acc 99 2 (ars q2.1), .acc 145 7 (pcs acc), .box 145 [.d (str (nameW W (hasW W ⟨#[112, 114, 111, 99]⟩ Z).2).1), .acc 8, nilC, .d (str ⟨#[]⟩), .d (num 0), .d (str ⟨#[]⟩), nilC], .acc 9 1 (strs ps)]⟩) ?_ ?_
            · refine awp_seq ?_; refine rgn fun pan K hp hK => ?_; refine hK _ ?_; clear hK hp K pan; refine awp_norm [2, 3, 4, 5, 9, 74] rfl rfl ?_
              refine awp_cond2 rfl (onB_intro (fun h5 => ?_) (fun h5 => ?_))
              · have eh5 : decide (((strs ps).length : Int) > 0) = true := h5
                rw [strs_length] at eh5
                refine rgn fun pan K hp hK => ?_; show aCall _ _ _ _ _ _ _
                refine aCall_ret (L := [3]) rfl rfl rfl (wantR_spec Z2 hkZ2 hW ⟨#[44]⟩ _ rfl) rfl rfl rfl rfl ?_
                refine hK _ ?_; clear hK hp K pan
                have es : sepV W ps Z2 = wantW W ⟨#[44]⟩ Z2 := by unfold sepV; rw [eh5]
                rw [es]
                exact ⟨_, sub_norm (slots := [2, 3, 4, 5, 9]) rfl rfl, rfl⟩
              have eh5 : decide (((strs ps).length : Int) > 0) = false := h5
              rw [strs_length] at eh5
              refine awp_skip ?_
              have es : sepV W ps Z2 = Z2 := by unfold sepV; rw [eh5]
              rw [es]
              exact ⟨_, sub_norm (slots := [2, 3, 4, 5, 9]) rfl rfl, rfl⟩
            rintro Q rfl
            refine awp_seq ?_; refine rgn fun pan K hp hK => ?_; show aCall _ _ _ _ _ _ _
            refine aCall_ret (L := [3]) rfl rfl rfl (nameR_spec (sepV W ps Z2) (sepV_k hkZ2) hW _ rfl) rfl rfl rfl rfl ?_
            refine hK _ ?_; clear hK hp K pan; refine awp_norm [2, 3, 4, 5, 9, 10] rfl rfl ?_; refine rgn fun pan K hp hK => ?_
            refine And.intro (And.intro ((by simp only [strs_length, chunk_length]; omega)) ((by simp only [strs_length, chunk_length, maxLen]; omega))) ?_
            refine hK _ ?_; clear hK hp K pan
            simp only [prmsQ, eh3, eh4, Bool.not_false, Bool.and_self] at hB
            exact ⟨m2, Nat.lt_succ_self m2, _, sub_pick (L := [0, 1, 2, 3, 4, 5, 6, 7, 8]) (slots := [2, 3, 4, 5, 9]) rfl rfl rfl rfl rfl, ps ++ [(nameW W (sepV W ps Z2)).1], _, by simp only [List.length_append, List.length_cons, List.length_nil]; omega, nameW_k (sepV_k hkZ2), hB, by rw [← strs_snoc]; rfl⟩
          have eh4 : eqW (wrd W Z2) ⟨#[41]⟩ = true := by simpa [eqW] using h4
          refine awp_exit ?_
          simp only [prmsQ, eh3, eh4, Bool.not_true, Bool.and_false, Option.some.injEq] at hB
          subst hB
          exact ⟨_, sub_norm (slots := [2, 3, 4, 5, 9]) rfl rfl, rfl⟩
        have eh3 : (Z2.c == 0) = false := h3
        refine hK _ ?_; clear hK hp K pan; refine awp_norm [2, 3, 4, 5, 9, 70] rfl rfl ?_; refine awp_cond rfl ?_
        refine awp_exit ?_
        simp only [prmsQ, eh3, Bool.false_and, Option.some.injEq] at hB
        subst hB
        exact ⟨_, sub_norm (slots := [2, 3, 4, 5, 9]) rfl rfl, rfl⟩
      rintro Q rfl
      refine awp_seq ?_; refine rgn fun pan K hp hK => ?_; show aCall _ _ _ _ _ _ _
      refine aCall_ret (L := [3]) rfl rfl rfl (wantR_spec p.2 hkp hW ⟨#[41]⟩ _ rfl) rfl rfl rfl rfl ?_
      refine hK _ ?_; clear hK hp K pan; refine awp_norm [2, 3, 4, 5, 9] rfl rfl ?_; refine awp_seq ?_; refine rgn fun pan K hp hK => ?_; show aCall _ _ _ _ _ _ _
      refine aCall_ret (L := [3]) rfl rfl rfl (wantR_spec (wantW W ⟨#[41]⟩ p.2) (wantW_k hkp) hW ⟨#[123]⟩ _ rfl) rfl rfl rfl rfl ?_
      refine hK _ ?_; clear hK hp K pan; refine awp_norm [2, 3, 4, 5, 9] rfl rfl ?_; refine awp_seq ?_; refine rgn fun pan K hp hK => ?_; show aCall _ _ _ _ _ _ _
      cases hr1 : stmtsQ W n 1 [] (wantW W ⟨#[123]⟩ (wantW W ⟨#[41]⟩ p.2)) with
      | none => simp only [hr1, Option.bind_none] at hA <;> cases hA
      | some r1 =>
        obtain ⟨bd, Y1⟩ := r1
        obtain ⟨hk1, sp1⟩ := ss_both ((smQ_ok hW n hn).2.2) (wantW_k (wantW_k hkp)) hr1
        refine aCall_ret (L := [3]) rfl rfl rfl sp1 rfl rfl rfl rfl ?_
        refine hK _ ?_; clear hK hp K pan; refine awp_norm [2, 3, 4, 5, 9] rfl rfl ?_; refine awp_seq ?_; refine rgn fun pan K hp hK => ?_; show aCall _ _ _ _ _ _ _
        refine aCall_ret (L := [3]) rfl rfl rfl (wantR_spec Y1 hk1 hW ⟨#[114, 101, 116, 117, 114, 110]⟩ _ rfl) rfl rfl rfl rfl ?_
        refine hK _ ?_; clear hK hp K pan; refine awp_norm [2, 3, 4, 5, 9] rfl rfl ?_; refine awp_seq ?_; refine rgn fun pan K hp hK => ?_; show aCall _ _ _ _ _ _ _
        cases hr2 : termQ W n 1 (wantW W ⟨#[114, 101, 116, 117, 114, 110]⟩ Y1) with
        | none => simp only [hr1, hr2, Option.bind_none, Option.bind_some] at hA <;> cases hA
        | some r2 =>
          obtain ⟨⟨ro, rn, rm, rl⟩, Y2⟩ := r2
          obtain ⟨hk2, sp2⟩ := te_both ((termsW_ok hW n).2.2) (wantW_k hk1) hr2
          refine aCall_ret (L := [3]) rfl rfl rfl sp2 rfl rfl rfl rfl ?_
          refine hK _ ?_; clear hK hp K pan; refine awp_norm [2, 3, 4, 5, 9] rfl rfl ?_; refine awp_seq ?_; refine rgn fun pan K hp hK => ?_; show aCall _ _ _ _ _ _ _
          refine aCall_ret (L := [3]) rfl rfl rfl (wantR_spec Y2 hk2 hW ⟨#[59]⟩ _ rfl) rfl rfl rfl rfl ?_
          refine hK _ ?_; clear hK hp K pan; refine awp_norm [2, 3, 4, 5, 9] rfl rfl ?_; refine awp_seq ?_; refine rgn fun pan K hp hK => ?_; show aCall _ _ _ _ _ _ _
          refine aCall_ret (L := [3]) rfl rfl rfl (wantR_spec (wantW W ⟨#[59]⟩ Y2) (wantW_k hk2) hW ⟨#[125]⟩ _ rfl) rfl rfl rfl rfl ?_
          refine hK _ ?_; clear hK hp K pan; refine awp_norm [2, 3, 4, 5, 9] rfl rfl ?_; refine rgn fun pan K hp hK => ?_
          refine And.intro (And.intro ((by simp only [pcs_length, chunk_length]; omega)) ((by simp only [pcs_length, chunk_length, maxLen]; omega))) ?_
          refine hK _ ?_; clear hK hp K pan
          simp only [hr1, hr2, Option.bind_some] at hA
          exact ⟨m, Nat.lt_succ_self m, _, sub_pick (L := [0, 1, 2, 3, 4, 5, 6]) (slots := [2, 3, 4, 5]) rfl rfl rfl rfl rfl, acc ++ [⟨(nameW W (hasW W ⟨#[112, 114, 111, 99]⟩ Z).2).1, p.1, bd, .mk ro rn rm rl⟩], _, by simp only [List.length_append, List.length_cons, List.length_nil]; omega, wantW_k (wantW_k hk2), hA, by rw [← pcs_snoc]; rfl⟩
    have eh2 : (hasW W ⟨#[112, 114, 111, 99]⟩ Z).1 = false := h2
    refine awp_exit ?_
    simp only [procsQ, eh2, Option.some.injEq] at hA
    subst hA
    exact ⟨_, sub_norm (slots := [2, 3, 4, 5]) rfl rfl, rfl⟩
  rintro Q rfl
  refine awp_seq ?_; refine rgn fun pan K hp hK => ?_; show aCall _ _ _ _ _ _ _
  refine aCall_ret (L := [3]) rfl rfl rfl (wantR_spec q3.2 hkq3 hW ⟨#[109, 97, 105, 110]⟩ _ rfl) rfl rfl rfl rfl ?_
  refine hK _ ?_; clear hK hp K pan; refine awp_norm [2, 3, 4, 5] rfl rfl ?_; refine awp_seq ?_; refine rgn fun pan K hp hK => ?_; show aCall _ _ _ _ _ _ _
  cases hr1 : blkQ W n 1 (wantW W ⟨#[109, 97, 105, 110]⟩ q3.2) with
  | none => simp only [hr1, Option.bind_none] at hG <;> cases hG
  | some r1 =>
    obtain ⟨mn, Y1⟩ := r1
    obtain ⟨hk1, sp1⟩ := bl_both ((smQ_ok hW n hn).2.1) (wantW_k hkq3) hr1
    refine aCall_ret (L := [3]) rfl rfl rfl sp1 rfl rfl rfl rfl ?_
    refine hK _ ?_; clear hK hp K pan; refine awp_norm [2, 3, 4, 5] rfl rfl ?_
    refine awp_cut (fun Q => Q = ⟨[(2, .box 0 0), (3, .box 1 0), (4, .box 2 0), (5, .box 3 0)], [.box 37 zP, .box 39 [.d (num 0), .d (num 0)], .box 37 [.acc 4, .acc 5, .acc 6, .d (.sl 7 (sms mn))], PB W (endQ W Y1), .acc 9 1 (strs q1.1), .acc 99 2 (ars q2.1), .acc 145 7 (pcs q3.1)]⟩) ?_ ?_
    · refine awp_seq ?_; refine rgn fun pan K hp hK => ?_
      refine onB_intro (fun h2 => ?_) (fun h2 => ?_)
      · have eh2 : (Y1.c == 0) = true := h2
        show aCall _ _ _ _ _ _ _
        refine aCall_ret (L := [3]) rfl rfl rfl (wordR_spec Y1 hk1 _ rfl) rfl rfl rfl rfl ?_
        refine hK _ ?_; clear hK hp K pan; refine awp_norm [2, 3, 4, 5, 122] rfl rfl ?_
        refine awp_cond2 rfl (onB_intro (fun h3 => ?_) (fun h3 => ?_))
        · have eh3 : eqW (wrd W Y1) ⟨#[]⟩ = false := by simpa [eqW] using h3
          refine rgn fun pan K hp hK => ?_; show aCall _ _ _ _ _ _ _
          refine aCall_ret (L := [3]) rfl rfl rfl (failR_spec Y1 hk1 1 _ rfl) rfl rfl rfl rfl ?_
          refine hK _ ?_; clear hK hp K pan
          have es : endQ W Y1 = failW W 1 Y1 := by simp only [endQ, eh2, eh3, Bool.not_false, Bool.and_self]
          rw [es]
          exact ⟨_, sub_norm (slots := [2, 3, 4, 5]) rfl rfl, rfl⟩
        have eh3 : eqW (wrd W Y1) ⟨#[]⟩ = true := by simpa [eqW] using h3
        refine awp_skip ?_
        have es : endQ W Y1 = Y1 := by simp only [endQ, eh2, eh3, Bool.not_true, Bool.and_false]
        rw [es]
        exact ⟨_, sub_norm (slots := [2, 3, 4, 5]) rfl rfl, rfl⟩
      have eh2 : (Y1.c == 0) = false := h2
      refine hK _ ?_; clear hK hp K pan; refine awp_norm [2, 3, 4, 5, 122] rfl rfl ?_; refine awp_cond rfl ?_; refine awp_skip ?_
      have es : endQ W Y1 = Y1 := by simp only [endQ, eh2, Bool.false_and]
      rw [es]
      exact ⟨_, sub_norm (slots := [2, 3, 4, 5]) rfl rfl, rfl⟩
    rintro Q rfl
    refine awp_seq ?_; refine awp_seq ?_; refine rgn fun pan K hp hK => ?_; refine hK _ ?_; clear hK hp K pan; refine awp_norm [2, 3, 4, 5, 130] rfl rfl ?_
    refine awp_cond2 rfl (onB_intro (fun h2 => ?_) (fun h2 => ?_))
    · have eh2 : decide ((endQ W Y1).c > 0) = true := h2
      refine awp_seq ?_
      refine (awp_draw TT_ok mixed p17_37 [6] (fun i => Nat.beq i 3) (by kernel_rfl) fun pan K hp hK => ?_)
      refine hK _ ?_; clear hK hp K pan; refine awp_norm [2, 3] rfl rfl ?_; refine awp_ret ?_
      simp only [hr1, Option.bind_some, Option.some.injEq] at hG
      subst hG
      simp only [finQ, eh2]
      exact ⟨_, [], _, [encP _, .d (.agg [num _, num _])], rfl, rfl, rfl, rfl, rfl, .cons zPg_wk (.cons (.refl _) .nil), rfl⟩
    have eh2 : decide ((endQ W Y1).c > 0) = false := h2
    refine awp_skip ?_; refine awp_seq ?_; refine rgn fun pan K hp hK => ?_; refine hK _ ?_; clear hK hp K pan; refine awp_norm [2, 3] rfl rfl ?_; refine awp_ret ?_
    simp only [hr1, Option.bind_some, Option.some.injEq] at hG
    subst hG
    simp only [finQ, eh2]
    exact ⟨_, [], _, [encP _, .d (.agg [num _, num _])], rfl, rfl, rfl, rfl, rfl, .cons (.refl _) (.cons (.refl _) .nil), rfl⟩
theorem readQ_long (s : ByteArray) (hs4 : 4000 < s.size) : Spec Tryz.prog G 17 [.d (str s)] [] (.ret (.tup [encP zPg, .d (.agg [num 2, num (-1)])])) [] := by
  refine spec_of_awp2 TT_ok (N := 138) Tryz.func17 rfl (by rfl) (Nat.le_refl _) rfl ?_
  refine awp_seq ?_; refine rgn fun pan K hp hK => ?_; refine hK _ ?_; clear hK hp K pan; refine awp_norm [0, 2, 3] rfl rfl ?_; refine awp_seq ?_; refine rgn fun pan K hp hK => ?_; refine hK _ ?_; clear hK hp K pan; refine awp_norm [0, 2, 3, 4] rfl rfl ?_; refine awp_seq ?_; refine awp_seq ?_; refine rgn fun pan K hp hK => ?_; refine hK _ ?_; clear hK hp K pan; refine awp_norm [0, 2, 3, 4, 14] rfl rfl ?_
  refine awp_cond2 rfl (onB_intro (fun h1 => ?_) (fun h1 => ?_))
  · have := of_decide_eq_true h1
    refine awp_seq ?_; refine rgn fun pan K hp hK => ?_; refine hK _ ?_; clear hK hp K pan; refine awp_norm [2, 3] rfl rfl ?_; refine awp_ret ?_
    exact ⟨_, [], _, [encP zPg, .d (.agg [num _, num _])], rfl, rfl, rfl, rfl, rfl, .cons zPg_wk (.cons (.refl _) .nil), rfl⟩
  have := of_decide_eq_false h1
  omega
end
end Go.Abs
end
section
namespace Go.Abs
open Go Go.Proofs
section
variable {s : ByteArray} {W : List Wd}
theorem R.bind_assoc {α β γ : Type} (r : R s α) (f : α → PS s → R s β) (g : β → PS s → R s γ) : (r.bind f).bind g = r.bind fun a q => (f a q).bind g := by
  cases r <;> rfl
theorem term_ge {n : Nat} {d : Int} {p : PS s} (h : termF s n d p ≠ .out) : 3 ≤ n := by
  match n, h with
  | 0, h => exact absurd (by simp only [termF]) h
  | 1, h => exact absurd (by simp only [termF, productF, R.bind]) h
  | 2, h => exact absurd (by simp only [termF, productF, factorF, R.bind]) h
  | n + 3, _ => omega
theorem relQ_ft {X : RSt} (h : 0 < X.c) : relQ W X = X := by
  unfold relQ
  rw [wrd_ft h, failW_ft h]
  cases isRelF ⟨#[]⟩ <;> rfl
theorem andQ_ft {X : RSt} (h : 0 < X.c) (N : Nat) (b : Bool) (row : List Ts) : ∀ f, 1 ≤ f → andQ W N f b row X = some (row, X)
  | 0, hf => absurd hf (by omega)
  | f + 1, _ => by
    simp only [andQ]
    rw [beq_eq_false_iff_ne.2 (by omega), Bool.and_false]
theorem simTest (N n f : Nat) (hN : n ≤ N) (hf : n ≤ f) (row : List Ts) (ih : ∀ row k p, At s W k p → Sim W (andL s n row p) (andQ W N f (!(hasW W ⟨#[97, 110, 100]⟩ (okX k)).1) row (hasW W ⟨#[97, 110, 100]⟩ (okX k)).2)) {k : Nat} {p : PS s} (hA : At s W k p) :
    Sim W ((testF s n p).bind fun t q => andL s n (row ++ [t]) q) (andQ W N (f + 1) false row (okX k)) := by
  obtain ⟨_, _, _, hT, _⟩ := exS s W n
  have e : andQ W N (f + 1) false row (okX k) = (termQ W N 1 (okX k)).bind fun a => (termQ W N 1 (passW W (relQ W a.2))).bind fun e => andQ W N f (!(hasW W ⟨#[97, 110, 100]⟩ e.2).1) (row ++ [⟨a.1, wrd W a.2, e.1⟩]) (hasW W ⟨#[97, 110, 100]⟩ e.2).2 := by
    simp only [andQ]
    rfl
  rw [e]
  unfold testF
  rw [R.bind_assoc]
  refine sim_bind (g := fun a => (termQ W N 1 (passW W (relQ W a.2))).bind fun e => andQ W N f (!(hasW W ⟨#[97, 110, 100]⟩ e.2).1) (row ++ [⟨a.1, wrd W a.2, e.1⟩]) (hasW W ⟨#[97, 110, 100]⟩ e.2).2) (hT N 1 k p hN (by omega) (by omega) hA) (fun a k' q hq hr => ?_) (fun a X q c hb hX => ?_)
  · have h3 : 3 ≤ n := term_ge (by rw [hr]; exact fun e => nomatch e)
    unfold relQ
    simp only [wrd_ok hq]
    cases isRelF q.w with
    | true =>
      simp only
      rw [R.bind_assoc, passW_ok]
      refine sim_bind (g := fun e => andQ W N f (!(hasW W ⟨#[97, 110, 100]⟩ e.2).1) (row ++ [⟨a, q.w, e.1⟩]) (hasW W ⟨#[97, 110, 100]⟩ e.2).2) (hT N 1 _ _ hN (by omega) (by omega) (at_next hq)) (fun b k2 q2 hq2 _ => ?_) (fun b X q c _ hX => ?_)
      · exact ih _ _ _ hq2
      simp only [hasW_ft hX]
      exact ⟨_, andQ_ft hX N _ _ f (by omega)⟩
    | false =>
      simp only
      rw [failW_ok hq]
      have hX : 0 < (⟨k', 1, q.i⟩ : RSt).c := (show (0 : Int) < 1 by decide)
      rw [passW_ft hX, termQ_ft hX 1 N (by omega), Option.bind_some]
      simp only [hasW_ft hX]
      exact ⟨_, _, andQ_ft hX N _ _ f (by omega), rfl, rfl, by decide⟩
  have h3 : 3 ≤ n := term_ge (by rw [hb]; exact fun e => nomatch e)
  simp only [relQ_ft hX, passW_ft hX, termQ_ft hX 1 N (by omega), Option.bind_some, hasW_ft hX]
  exact ⟨_, andQ_ft hX N _ _ f (by omega)⟩
theorem simAnd (N : Nat) : ∀ (n f : Nat), n ≤ N → n ≤ f → ∀ row k p, At s W k p → Sim W (andL s n row p) (andQ W N f (!(hasW W ⟨#[97, 110, 100]⟩ (okX k)).1) row (hasW W ⟨#[97, 110, 100]⟩ (okX k)).2)
  | 0, f, _, _, row, k, p, hA => by simp only [andL]; trivial
  | n + 1, f, hN, hf, row, k, p, hA => by
    obtain ⟨f, rfl⟩ : ∃ f', f = f' + 1 := ⟨f - 1, by omega⟩
    rw [hasW_ok hA]
    simp only [andL]
    cases eqW p.w ⟨#[97, 110, 100]⟩ with
    | true => exact simTest N n f (by omega) (by omega) row (fun row k p hA => simAnd N n f (by omega) (by omega) row k p hA) (at_next hA)
    | false =>
      simp only [andQ, Bool.not_false, Bool.not_true, Bool.false_and]
      exact sim_ok hA _
theorem simRow (N n : Nat) (hN : n + 1 ≤ N) {k : Nat} {p : PS s} (hA : At s W k p) : Sim W (rowF s n p) (andQ W N N (hasW W ⟨#[116, 114, 117, 101]⟩ (okX k)).1 [] (hasW W ⟨#[116, 114, 117, 101]⟩ (okX k)).2) := by
  obtain ⟨f, rfl⟩ : ∃ f, N = f + 1 := ⟨N - 1, by omega⟩
  rw [hasW_ok hA]
  unfold rowF
  cases eqW p.w ⟨#[116, 114, 117, 101]⟩ with
  | true =>
    simp only [andQ, Bool.not_true, Bool.false_and]
    exact sim_ok (at_next hA) _
  | false => exact simTest (f + 1) n f (by omega) (by omega) [] (fun row k p hA => simAnd (f + 1) n f (by omega) (by omega) row k p hA) hA
theorem simCondL (N : Nat) : ∀ (n f : Nat), n ≤ N → n ≤ f → ∀ acc k p, At s W k p → Sim W (condL s n acc p) (condQL W N f acc (okX k))
  | 0, f, _, _, acc, k, p, hA => by simp only [condL]; trivial
  | n + 1, f, hN, hf, acc, k, p, hA => by
    obtain ⟨f, rfl⟩ : ∃ f', f = f' + 1 := ⟨f - 1, by omega⟩
    simp only [condL, condQL, beq_self_eq_true]
    refine sim_bind (g := fun q => match (hasW W ⟨#[111, 114]⟩ q.2).1 with
      | true => condQL W N f (acc ++ [q.1]) (hasW W ⟨#[111, 114]⟩ q.2).2
      | false => some (acc ++ [q.1], (hasW W ⟨#[111, 114]⟩ q.2).2)) (simRow N n hN hA) (fun a k' q hq _ => ?_) (fun a X q c _ hX => ?_)
    · simp only [hasW_ok hq]
      cases eqW q.w ⟨#[111, 114]⟩ with
      | true => exact simCondL N n f (by omega) (by omega) _ _ _ (at_next hq)
      | false => exact sim_ok hq _
    simp only [hasW_ft hX]
    exact ⟨_, rfl⟩
theorem simCond (N n : Nat) (hN : n ≤ N) {k : Nat} {p : PS s} (hA : At s W k p) : Sim W (condF s n p) (condQ W N (okX k)) := by
  unfold condF condQ
  rw [hasW_ok hA]
  cases eqW p.w ⟨#[102, 97, 108, 115, 101]⟩ with
  | true => exact sim_ok (at_next hA) _
  | false => exact simCondL N n N hN hN [] k p hA
theorem stmtsQ_ft {X : RSt} (h : 0 < X.c) (d : Int) (acc : List Sm) : ∀ m, 1 ≤ m → stmtsQ W m d acc X = some (acc, X)
  | 0, hm => absurd hm (by omega)
  | m + 1, _ => by
    simp only [stmtsQ]
    rw [beq_eq_false_iff_ne.2 (by omega)]
    rfl
theorem blkQ_ft {X : RSt} (h : 0 < X.c) (d : Int) : ∀ m, 2 ≤ m → blkQ W m d X = some ([], X)
  | 0, hm => absurd hm (by omega)
  | m + 1, hm => by
    simp only [blkQ, wantW_ft h, stmtsQ_ft h d [] m (by omega), Option.bind_some]
theorem argsQ_ft {X : RSt} (h : 0 < X.c) (N : Nat) (acc : List Ex) : ∀ f, 1 ≤ f → argsQ W N f acc X = some (acc, X)
  | 0, hm => absurd hm (by omega)
  | f + 1, _ => by
    simp only [argsQ]
    rw [beq_eq_false_iff_ne.2 (by omega)]
    rfl
theorem simArgs (N : Nat) (h3 : 3 ≤ N) : ∀ (n f : Nat), n ≤ N → n < f → ∀ acc k p, At s W k p → Sim W (argsL s n acc p) ((argsQ W N f acc (okX k)).bind fun r => some (r.1, wantW W ⟨#[41]⟩ r.2))
  | 0, f, _, _, acc, k, p, hA => by simp only [argsL]; trivial
  | n + 1, f, hN, hf, acc, k, p, hA => by
    obtain ⟨f, rfl⟩ : ∃ f', f = f' + 1 := ⟨f - 1, by omega⟩
    obtain ⟨_, _, _, hT, _⟩ := exS s W n
    simp only [argsL, argsQ, wrd_ok hA, beq_self_eq_true, Bool.true_and]
    cases he : eqW p.w ⟨#[41]⟩ with
    | true =>
      simp only [Bool.not_true, Option.bind_some]
      have : wantW W ⟨#[41]⟩ (okX k) = okX (nk W k) := by
        unfold wantW
        rw [decide_eq_false (show ¬ (0 : Int) > 0 by decide), wrd_ok hA, he, passW_ok]
      rw [this]
      exact sim_ok (at_next hA) _
    | false =>
      simp only [Bool.not_false]
      have key : ∀ k' q, At s W k' q → Sim W ((termF s n 1 q).bind fun e q => argsL s n (acc ++ [e]) q) (((termQ W N 1 (okX k')).bind fun e => argsQ W N f (acc ++ [e.1]) e.2).bind fun r => some (r.1, wantW W ⟨#[41]⟩ r.2)) := by
        intro k' q hq
        rw [Option.bind_assoc]
        refine sim_bind (g := fun e => (argsQ W N f (acc ++ [e.1]) e.2).bind fun r => some (r.1, wantW W ⟨#[41]⟩ r.2)) (hT N 1 k' q (by omega) (by omega) (by omega) hq) (fun a k2 q2 hq2 _ => simArgs N h3 n f (by omega) (by omega) _ _ _ hq2) (fun a X q c hb hX => ?_)
        simp only [argsQ_ft hX N _ f (by omega), Option.bind_some, wantW_ft hX]
        exact ⟨_, rfl⟩
      unfold sepQ
      cases decide ((acc.length : Int) > 0) with
      | false => exact key k p hA
      | true =>
        simp only
        exact sim_take (g := fun X => ((termQ W N 1 X).bind fun e => argsQ W N f (acc ++ [e.1]) e.2).bind fun r => some (r.1, wantW W ⟨#[41]⟩ r.2)) _ hA key (fun X hX => by simp only [termQ_ft hX 1 N h3, Option.bind_some, argsQ_ft hX N _ f (by omega), wantW_ft hX]; exact ⟨_, rfl⟩)
end
end Go.Abs
end
section
namespace Go.Abs
open Go Go.Proofs
def SmS (s : ByteArray) (W : List Wd) (n : Nat) : Prop :=
  (∀ m d acc k p, n + 4 ≤ m → At s W k p → Sim W (stmtsL s n d acc p) (stmtsQ W m d acc (okX k))) ∧ (∀ m d k p, n + 4 ≤ m → At s W k p → Sim W (blockF s n d p) (blkQ W m d (okX k))) ∧
  (∀ m d k p, n + 4 ≤ m → At s W k p → Sim W (stmtF s n d p) (stmtQ W m d (okX k)))
section
variable {s : ByteArray} {W : List Wd}
theorem simStmts (n : Nat) (ih : SmS s W n) (m : Nat) (d : Int) (acc : List Sm) (k : Nat) (p : PS s) (hm : n + 1 + 4 ≤ m) (hA : At s W k p) : Sim W (stmtsL s (n + 1) d acc p) (stmtsQ W m d acc (okX k)) := by
  obtain ⟨hSs, hB, hSt⟩ := ih
  obtain ⟨m, rfl⟩ : ∃ m', m = m' + 1 := ⟨m - 1, by omega⟩
  simp only [stmtsL, stmtsQ, wrd_ok hA, beq_self_eq_true, Bool.true_and]
  cases (!eqW p.w ⟨#[125]⟩ && !eqW p.w ⟨#[114, 101, 116, 117, 114, 110]⟩) with
  | true =>
    simp only
    cases decide (d > 12) with
    | true => exact sim_fail hA _
    | false => exact sim_bind (g := fun r => stmtsQ W m d (acc ++ [r.1]) r.2) (hSt m d k p (by omega) hA) (fun a k' q hq _ => hSs m d _ k' q (by omega) hq) (fun a X q c _ hX => ⟨_, stmtsQ_ft hX d _ m (by omega)⟩)
  | false => exact sim_ok hA _
theorem simBlock (n : Nat) (ih : SmS s W n) (m : Nat) (d : Int) (k : Nat) (p : PS s) (hm : n + 1 + 4 ≤ m) (hA : At s W k p) : Sim W (blockF s (n + 1) d p) (blkQ W m d (okX k)) := by
  obtain ⟨hSs, hB, hSt⟩ := ih
  obtain ⟨m, rfl⟩ : ∃ m', m = m' + 1 := ⟨m - 1, by omega⟩
  simp only [blockF, blkQ]
  refine sim_take (g := fun X => (stmtsQ W m d [] X).bind fun r => some (r.1, wantW W ⟨#[125]⟩ r.2)) _ hA (fun k' q hq => ?_) (fun X hX => ⟨_, by simp only [stmtsQ_ft hX d [] m (by omega), Option.bind_some, wantW_ft hX]; rfl⟩)
  refine sim_bind (g := fun r => some (r.1, wantW W ⟨#[125]⟩ r.2)) (hSs m d [] k' q (by omega) hq) (fun a k2 q2 hq2 _ => ?_) (fun a X q c _ hX => ⟨a, by rw [wantW_ft hX]⟩)
  exact sim_take (g := fun X => some (a, X)) _ hq2 (fun k3 q3 hq3 => sim_ok hq3 _) (fun X _ => ⟨_, rfl⟩)
theorem simStmt (n : Nat) (ih : SmS s W n) (m : Nat) (d : Int) (k : Nat) (p : PS s) (hm : n + 1 + 4 ≤ m) (hA : At s W k p) : Sim W (stmtF s (n + 1) d p) (stmtQ W m d (okX k)) := by
  obtain ⟨hSs, hB, hSt⟩ := ih
  obtain ⟨_, _, _, hT, _⟩ := exS s W n
  obtain ⟨m, rfl⟩ : ∃ m', m = m' + 1 := ⟨m - 1, by omega⟩
  simp only [stmtF, stmtQ, wrd_ok hA]
  cases hk : (eqW p.w ⟨#[105, 102]⟩ || eqW p.w ⟨#[119, 104, 105, 108, 101]⟩) with
  | true =>
    simp only
    rw [passW_ok]
    refine sim_bind (g := fun c => (blkQ W m (IntKind.i64.wrap (d + 1)) c.2).bind fun b => match eqW p.w ⟨#[105, 102]⟩ with
      | true => match (hasW W ⟨#[101, 108, 115, 101]⟩ b.2).1 with
        | true => (blkQ W m (IntKind.i64.wrap (d + 1)) (hasW W ⟨#[101, 108, 115, 101]⟩ b.2).2).bind fun e => some (Sm.mk p.w ⟨#[]⟩ ⟨#[]⟩ [] c.1 b.1 e.1, e.2)
        | false => some (.mk p.w ⟨#[]⟩ ⟨#[]⟩ [] c.1 b.1 [], (hasW W ⟨#[101, 108, 115, 101]⟩ b.2).2)
      | false => some (.mk p.w ⟨#[]⟩ ⟨#[]⟩ [] c.1 b.1 [], b.2)) (simCond m n (by omega) (at_next hA)) (fun c k2 q2 hq2 _ => ?_) (fun c X q e _ hX => ?_)
    · refine sim_bind (g := fun b => match eqW p.w ⟨#[105, 102]⟩ with
        | true => match (hasW W ⟨#[101, 108, 115, 101]⟩ b.2).1 with
          | true => (blkQ W m (IntKind.i64.wrap (d + 1)) (hasW W ⟨#[101, 108, 115, 101]⟩ b.2).2).bind fun e => some (Sm.mk p.w ⟨#[]⟩ ⟨#[]⟩ [] c b.1 e.1, e.2)
          | false => some (.mk p.w ⟨#[]⟩ ⟨#[]⟩ [] c b.1 [], (hasW W ⟨#[101, 108, 115, 101]⟩ b.2).2)
        | false => some (.mk p.w ⟨#[]⟩ ⟨#[]⟩ [] c b.1 [], b.2)) (hB m _ _ _ (by omega) hq2) (fun b k3 q3 hq3 _ => ?_) (fun b X q e _ hX => ?_)
      · cases eqW p.w ⟨#[105, 102]⟩ with
        | true =>
          simp only [hasW_ok hq3, Bool.true_and]
          cases eqW q3.w ⟨#[101, 108, 115, 101]⟩ with
          | true => exact sim_bind (g := fun e => some (Sm.mk p.w ⟨#[]⟩ ⟨#[]⟩ [] c b e.1, e.2)) (hB m _ _ _ (by omega) (at_next hq3)) (fun e k4 q4 hq4 _ => sim_ok hq4 _) (fun e X q c _ hX => ⟨_, rfl⟩)
          | false => exact sim_ok hq3 _
        | false => exact sim_ok hq3 _
      cases eqW p.w ⟨#[105, 102]⟩ with
      | true => simp only [hasW_ft hX]; exact ⟨_, rfl⟩
      | false => exact ⟨_, rfl⟩
    simp only [blkQ_ft hX _ m (by omega), Option.bind_some, hasW_ft hX]
    cases eqW p.w ⟨#[105, 102]⟩ with
    | true => exact ⟨_, rfl⟩
    | false => exact ⟨_, rfl⟩
  | false =>
    simp only
    cases (eqW p.w ⟨#[97, 115, 115, 101, 114, 116]⟩ || eqW p.w ⟨#[97, 115, 115, 117, 109, 101]⟩) with
    | true =>
      simp only
      rw [passW_ok]
      refine sim_bind (g := fun c => some (Sm.mk p.w ⟨#[]⟩ ⟨#[]⟩ [] c.1 [] [], wantW W ⟨#[59]⟩ c.2)) (simCond m n (by omega) (at_next hA)) (fun c k2 q2 hq2 _ => ?_) (fun c X q e _ hX => ⟨_, by rw [wantW_ft hX]⟩)
      exact sim_take (g := fun X => some (Sm.mk p.w ⟨#[]⟩ ⟨#[]⟩ [] c [] [], X)) _ hq2 (fun k3 q3 hq3 => sim_ok hq3 _) (fun X _ => ⟨_, rfl⟩)
    | false =>
      simp only
      cases eqW p.w ⟨#[114, 101, 97, 100]⟩ with
      | true =>
        simp only
        rw [passW_ok]
        refine sim_name (g := fun N => some (Sm.mk p.w N.1 ⟨#[]⟩ [] [] [] [], wantW W ⟨#[59]⟩ N.2)) (at_next hA) (fun a k2 q2 hq2 => ?_) (fun a X hX => ⟨_, by rw [wantW_ft hX]⟩)
        exact sim_take (g := fun X => some (Sm.mk p.w a ⟨#[]⟩ [] [] [] [], X)) _ hq2 (fun k3 q3 hq3 => sim_ok hq3 _) (fun X _ => ⟨_, rfl⟩)
      | false =>
        simp only
        refine sim_name (g := fun N => match (hasW W ⟨#[91]⟩ N.2).1 with
          | true => (termQ W m 1 (hasW W ⟨#[91]⟩ N.2).2).bind fun i => (termQ W m 1 (wantW W ⟨#[61]⟩ (wantW W ⟨#[93]⟩ i.2))).bind fun e => some (Sm.mk ⟨#[112, 117, 116]⟩ N.1 ⟨#[]⟩ [i.1, e.1] [] [] [], wantW W ⟨#[59]⟩ e.2)
          | false => match (hasW W ⟨#[99, 97, 108, 108]⟩ (wantW W ⟨#[61]⟩ (hasW W ⟨#[91]⟩ N.2).2)).1 with
            | false => (termQ W m 1 (hasW W ⟨#[99, 97, 108, 108]⟩ (wantW W ⟨#[61]⟩ (hasW W ⟨#[91]⟩ N.2).2)).2).bind fun e => some (.mk ⟨#[115, 101, 116]⟩ N.1 ⟨#[]⟩ [e.1] [] [] [], wantW W ⟨#[59]⟩ e.2)
            | true => (argsQ W m m [] (wantW W ⟨#[40]⟩ (nameW W (hasW W ⟨#[99, 97, 108, 108]⟩ (wantW W ⟨#[61]⟩ (hasW W ⟨#[91]⟩ N.2).2)).2).2)).bind fun l => some (.mk ⟨#[99, 97, 108, 108]⟩ N.1 (nameW W (hasW W ⟨#[99, 97, 108, 108]⟩ (wantW W ⟨#[61]⟩ (hasW W ⟨#[91]⟩ N.2).2)).2).1 l.1 [] [] [], wantW W ⟨#[59]⟩ (wantW W ⟨#[41]⟩ l.2))) hA (fun a k2 q2 hq2 => ?_) (fun a X hX => ?_)
        · simp only [hasW_ok hq2]
          cases eqW q2.w ⟨#[91]⟩ with
          | true =>
            simp only
            refine sim_bind (g := fun i => (termQ W m 1 (wantW W ⟨#[61]⟩ (wantW W ⟨#[93]⟩ i.2))).bind fun e => some (Sm.mk ⟨#[112, 117, 116]⟩ a ⟨#[]⟩ [i.1, e.1] [] [] [], wantW W ⟨#[59]⟩ e.2)) (hT m 1 _ _ (by omega) (by omega) (by omega) (at_next hq2)) (fun i k3 q3 hq3 _ => ?_) (fun i X q e _ hX => ⟨_, by simp only [wantW_ft hX, termQ_ft hX 1 m (by omega), Option.bind_some]; rfl⟩)
            refine sim_take (g := fun X => (termQ W m 1 (wantW W ⟨#[61]⟩ X)).bind fun e => some (Sm.mk ⟨#[112, 117, 116]⟩ a ⟨#[]⟩ [i, e.1] [] [] [], wantW W ⟨#[59]⟩ e.2)) _ hq3 (fun k4 q4 hq4 => ?_) (fun X hX => ⟨_, by simp only [wantW_ft hX, termQ_ft hX 1 m (by omega), Option.bind_some]; rfl⟩)
            refine sim_take (g := fun X => (termQ W m 1 X).bind fun e => some (Sm.mk ⟨#[112, 117, 116]⟩ a ⟨#[]⟩ [i, e.1] [] [] [], wantW W ⟨#[59]⟩ e.2)) _ hq4 (fun k5 q5 hq5 => ?_) (fun X hX => ⟨_, by simp only [wantW_ft hX, termQ_ft hX 1 m (by omega), Option.bind_some]; rfl⟩)
            refine sim_bind (g := fun e => some (Sm.mk ⟨#[112, 117, 116]⟩ a ⟨#[]⟩ [i, e.1] [] [] [], wantW W ⟨#[59]⟩ e.2)) (hT m 1 _ _ (by omega) (by omega) (by omega) hq5) (fun e k6 q6 hq6 _ => ?_) (fun e X q c _ hX => ⟨_, by rw [wantW_ft hX]⟩)
            exact sim_take (g := fun X => some (Sm.mk ⟨#[112, 117, 116]⟩ a ⟨#[]⟩ [i, e] [] [] [], X)) _ hq6 (fun k7 q7 hq7 => sim_ok hq7 _) (fun X _ => ⟨_, rfl⟩)
          | false =>
            simp only
            refine sim_take (g := fun Y => match (hasW W ⟨#[99, 97, 108, 108]⟩ Y).1 with
              | false => (termQ W m 1 (hasW W ⟨#[99, 97, 108, 108]⟩ Y).2).bind fun e => some (Sm.mk ⟨#[115, 101, 116]⟩ a ⟨#[]⟩ [e.1] [] [] [], wantW W ⟨#[59]⟩ e.2)
              | true => (argsQ W m m [] (wantW W ⟨#[40]⟩ (nameW W (hasW W ⟨#[99, 97, 108, 108]⟩ Y).2).2)).bind fun l => some (Sm.mk ⟨#[99, 97, 108, 108]⟩ a (nameW W (hasW W ⟨#[99, 97, 108, 108]⟩ Y).2).1 l.1 [] [] [], wantW W ⟨#[59]⟩ (wantW W ⟨#[41]⟩ l.2))) _ hq2 (fun k3 q3 hq3 => ?_) (fun X hX => ⟨_, by simp only [hasW_ft hX, termQ_ft hX 1 m (by omega), Option.bind_some, wantW_ft hX]; rfl⟩)
            simp only [hasW_ok hq3]
            cases eqW q3.w ⟨#[99, 97, 108, 108]⟩ with
            | true =>
              simp only
              refine sim_name (g := fun N => (argsQ W m m [] (wantW W ⟨#[40]⟩ N.2)).bind fun l => some (Sm.mk ⟨#[99, 97, 108, 108]⟩ a N.1 l.1 [] [] [], wantW W ⟨#[59]⟩ (wantW W ⟨#[41]⟩ l.2))) (at_next hq3) (fun f k4 q4 hq4 => ?_) (fun f X hX => ⟨_, by simp only [wantW_ft hX, argsQ_ft hX m [] m (by omega), Option.bind_some]; rfl⟩)
              refine sim_take (g := fun X => (argsQ W m m [] X).bind fun l => some (Sm.mk ⟨#[99, 97, 108, 108]⟩ a f l.1 [] [] [], wantW W ⟨#[59]⟩ (wantW W ⟨#[41]⟩ l.2))) _ hq4 (fun k5 q5 hq5 => ?_) (fun X hX => ⟨_, by simp only [wantW_ft hX, argsQ_ft hX m [] m (by omega), Option.bind_some]; rfl⟩)
              have e : ((argsQ W m m [] (okX k5)).bind fun l => some (Sm.mk ⟨#[99, 97, 108, 108]⟩ a f l.1 [] [] [], wantW W ⟨#[59]⟩ (wantW W ⟨#[41]⟩ l.2))) = ((argsQ W m m [] (okX k5)).bind fun r => some (r.1, wantW W ⟨#[41]⟩ r.2)).bind fun l => some (Sm.mk ⟨#[99, 97, 108, 108]⟩ a f l.1 [] [] [], wantW W ⟨#[59]⟩ l.2) := by
                rw [Option.bind_assoc]
                rfl
              rw [e]
              refine sim_bind (g := fun l => some (Sm.mk ⟨#[99, 97, 108, 108]⟩ a f l.1 [] [] [], wantW W ⟨#[59]⟩ l.2)) (simArgs m (by omega) n m (by omega) (by omega) [] _ _ hq5) (fun l k6 q6 hq6 _ => ?_) (fun l X q c _ hX => ⟨_, by rw [wantW_ft hX]⟩)
              exact sim_take (g := fun X => some (Sm.mk ⟨#[99, 97, 108, 108]⟩ a f l [] [] [], X)) _ hq6 (fun k7 q7 hq7 => sim_ok hq7 _) (fun X _ => ⟨_, rfl⟩)
            | false =>
              simp only
              refine sim_bind (g := fun e => some (Sm.mk ⟨#[115, 101, 116]⟩ a ⟨#[]⟩ [e.1] [] [] [], wantW W ⟨#[59]⟩ e.2)) (hT m 1 _ _ (by omega) (by omega) (by omega) hq3) (fun e k6 q6 hq6 _ => ?_) (fun e X q c _ hX => ⟨_, by rw [wantW_ft hX]⟩)
              exact sim_take (g := fun X => some (Sm.mk ⟨#[115, 101, 116]⟩ a ⟨#[]⟩ [e] [] [] [], X)) _ hq6 (fun k7 q7 hq7 => sim_ok hq7 _) (fun X _ => ⟨_, rfl⟩)
        simp only [hasW_ft hX, wantW_ft hX, termQ_ft hX 1 m (by omega), Option.bind_some]
        exact ⟨_, rfl⟩
theorem smS (s : ByteArray) (W : List Wd) : ∀ n, SmS s W n
  | 0 => ⟨fun m d acc k p _ _ => by simp only [stmtsL]; trivial, fun m d k p _ _ => by simp only [blockF]; trivial, fun m d k p _ _ => by simp only [stmtF]; trivial⟩
  | n + 1 => ⟨simStmts n (smS s W n), simBlock n (smS s W n), simStmt n (smS s W n)⟩
end
end Go.Abs
end
