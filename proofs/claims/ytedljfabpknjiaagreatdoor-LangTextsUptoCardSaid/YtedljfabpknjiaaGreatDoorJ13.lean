/- Texts of this proof, joined: AbsRC, AbsRD. -/
import Derived.Test.YtedljfabpknjiaaGreatDoorJ12
section
namespace Go.Abs
open Go Go.Proofs
attribute [local irreducible] aCall AWp Sub Spec
/-- A text and whether it is one; nothing where it is too long to be reckoned with. -/
abbrev GT := Option (ByteArray × Bool)
def fitG (a : ByteArray) (b : Bool) : GT := match chkS a with
  | true => some (a, b)
  | false => none
def namedG (op : ByteArray) : Bool := (op.toList == (⟨#[118, 97, 114]⟩ : ByteArray).toList) || (op.toList == (⟨#[97, 116]⟩ : ByteArray).toList)
def badG (op : ByteArray) (n : Int) (nm : ByteArray) : Bool := ((!(namedG op == isNameG nm)) || ((!namedG op) && !(nm.toList == (⟨#[]⟩ : ByteArray).toList))) || ((!(op.toList == (⟨#[110, 117, 109]⟩ : ByteArray).toList)) && (n != 0))
def exprG : Nat → Ex → Int → Int → GT
  | 0, _, _, _ => none
  | f + 1, .mk op n nm l, least, d => match decide (d > 12) with
    | true => some (⟨#[]⟩, false)
    | false => match decide (rankF op < least) with
      | true => match exprG f (.mk op n nm l) 1 (IntKind.i64.wrap (d + 1)) with
        | some (s, ok) => fitG ((⟨#[40]⟩ ++ s) ++ ⟨#[41]⟩) ok
        | none => none
      | false => match chkS nm && chkS op && chkN n with
        | false => none
        | true => match badG op n nm with
          | true => some (⟨#[]⟩, false)
          | false => match (op.toList == (⟨#[110, 117, 109]⟩ : ByteArray).toList) with
            | true => fitG (itoaB n) (((((exs l).length : Int) == 0) && decide (n ≥ 0)) && decide (n ≤ 1099511627776))
            | false => match (op.toList == (⟨#[118, 97, 114]⟩ : ByteArray).toList) with
              | true => fitG nm ((((exs l).length : Int) == 0))
              | false => match ((op.toList == (⟨#[97, 116]⟩ : ByteArray).toList) || (op.toList == (⟨#[110, 101, 103]⟩ : ByteArray).toList)) with
                | true => match (((exs l).length : Int) != 1) with
                  | true => some (⟨#[]⟩, false)
                  | false => match l with
                    | [x] => match (op.toList == (⟨#[97, 116]⟩ : ByteArray).toList) with
                      | true => match exprG f x 1 (IntKind.i64.wrap (d + 1)) with
                        | some (s, ok) => fitG ((nm ++ ⟨#[91]⟩) ++ s ++ ⟨#[93]⟩) ok
                        | none => none
                      | false => match exprG f x 3 (IntKind.i64.wrap (d + 1)) with
                        | some (s, ok) => fitG (⟨#[45]⟩ ++ s) ok
                        | none => none
                    | _ => none
                | false => match ((rankF op == 3) || (((exs l).length : Int) != 2)) with
                  | true => some (⟨#[]⟩, false)
                  | false => match l with
                    | [x, y] => match exprG f x (rankF op) d with
                      | some (a, ok) => match ((!ok) || decide ((a.size : Int) > 4000)) with
                        | true => some (⟨#[]⟩, false)
                        | false => match exprG f y (IntKind.i64.wrap (rankF op + 1)) d with
                          | some (b, ok2) => fitG ((((a ++ ⟨#[32]⟩) ++ op) ++ ⟨#[32]⟩) ++ b) ok2
                          | none => none
                      | none => none
                    | _ => none
theorem fitG_some {a : ByteArray} {b : Bool} {r : ByteArray × Bool} (h : fitG a b = some r) : a.size ≤ 1073741824 ∧ r = (a, b) := by
  unfold fitG at h
  split at h
  · rename_i hc
    simp only [Option.some.injEq] at h
    exact ⟨of_decide_eq_true hc, h.symm⟩
  cases h
theorem exprG_size : ∀ (f : Nat) (e : Ex) (least d : Int) (s : ByteArray) (b : Bool), exprG f e least d = some (s, b) → s.size ≤ 1073741824
  | 0, e, least, d, s, b, h => by simp only [exprG] at h; cases h
  | f + 1, .mk op n nm l, least, d, s, b, h => by
    have he : (⟨#[]⟩ : ByteArray).size = 0 := rfl
    simp only [exprG] at h
    repeat' (split at h)
    all_goals first
      | (cases h; done)
      | (simp only [Option.some.injEq, Prod.mk.injEq] at h; rw [← h.1, he]; omega)
      | (obtain ⟨h1, h2⟩ := fitG_some h; simp only [Prod.mk.injEq] at h2; rw [h2.1]; exact h1)
theorem ex_ne1 {l : List Ex} (h : (((exs l).length : Int) != 1) = false) : ∃ x, l = [x] := ex_one (c := true) (by simpa using h)
theorem ex_ne2 {l : List Ex} (h : (((exs l).length : Int) != 2) = false) : ∃ x y, l = [x, y] := ex_two (c := true) (by simpa using h)
def ExprGOk (G : Glob) (f : Nat) : Prop := ∀ (e : Ex) (least d : Int) (s : ByteArray) (b : Bool), exprG f e least d = some (s, b) → Spec Tryz.prog G 88 [.d (.agg e.cs), .d (num least), .d (num d)] [] (.ret (.tup [.d (str s), .d (.s (.bool b))])) []
def p88_21 : Plan := (.take 0 (.load 1 (.take 3 (.load 4 (.take 5 (.take 6 (.one 2 (.take 7 (.take 8 (.one 9 (.take 10 (.take 11 (.take 12 (.take 13 (.take 17 (.one 14 (.take 15 (.take 16 (.take 18 .done)))))))))))))))))))
def p88_23 : Plan := (.take 0 (.load 1 (.take 2 (.load 3 (.take 4 (.take 5 (.take 6 (.take 7 .done))))))))
theorem exprG_step (G : Glob) (f : Nat) (ih : ExprGOk G f) : ExprGOk G (f + 1) := by
  intro e least d s b hG
  obtain ⟨op, n, nm, l⟩ := e
  simp only [exprG] at hG
  have zl0 : (⟨#[40]⟩ : ByteArray).size = 1 := rfl
  have zl1 : (⟨#[91]⟩ : ByteArray).size = 1 := rfl
  have zl2 : (⟨#[45]⟩ : ByteArray).size = 1 := rfl
  have zl3 : (⟨#[93]⟩ : ByteArray).size = 1 := rfl
  have zl4 : (⟨#[32]⟩ : ByteArray).size = 1 := rfl
  have zl5 : (⟨#[41]⟩ : ByteArray).size = 1 := rfl
  refine spec_of_awp2 TT_ok (N := 192) Tryz.func88 rfl (by rfl) (Nat.le_refl _) rfl ?_
  refine awp_seq ?_; refine rgn fun pan K hp hK => ?_; refine hK _ ?_; clear hK hp K pan; refine awp_norm [1, 2, 3] rfl rfl ?_; refine awp_seq ?_; refine rgn fun pan K hp hK => ?_; refine hK _ ?_; clear hK hp K pan; refine awp_norm [1, 2, 3, 8] rfl rfl ?_
  refine awp_cut (fun Z => Z = ⟨[(1, .d (num least)), (2, .d (num d)), (3, .box 0 0), (8, .d (num (rankF op)))], [.box 143 [.d (str op), .d (num n), .d (str nm), .d (.sl 4 (exs l))]]⟩) ?_ ?_
  · refine awp_seq ?_; refine rgn fun pan K hp hK => ?_; refine hK _ ?_; clear hK hp K pan; refine awp_norm [1, 2, 3, 8, 21] rfl rfl ?_; refine awp_block ?_; refine awp_seq ?_; refine awp_seq ?_; refine rgn fun pan K hp hK => ?_; refine hK _ ?_; clear hK hp K pan; refine awp_norm [1, 2, 3, 8, 21, 22] rfl rfl ?_
    refine awp_cond2 rfl (onB_intro (fun h1 => ?_) (fun h1 => ?_))
    · refine awp_skip ?_; refine awp_cond rfl ?_; refine rgn fun pan K hp hK => ?_; refine hK _ ?_; clear hK hp K pan
      refine ⟨_, sub_norm (slots := [1, 2, 3, 8]) rfl rfl, ?_⟩
      first
        | rfl
        | (simp only [rankF, h1, Bool.true_or]; done)
        | (simp only [rankF, h1, Bool.true_or]; rfl)
    refine rgn fun pan K hp hK => ?_; refine hK _ ?_; clear hK hp K pan; refine awp_norm [1, 2, 3, 8, 21, 22] rfl rfl ?_
    refine awp_cond2 rfl (onB_intro (fun h2 => ?_) (fun h2 => ?_))
    · refine rgn fun pan K hp hK => ?_; refine hK _ ?_; clear hK hp K pan
      refine ⟨_, sub_norm (slots := [1, 2, 3, 8]) rfl rfl, ?_⟩
      first
        | rfl
        | (simp only [rankF, h1, h2, Bool.or_true]; done)
        | (simp only [rankF, h1, h2, Bool.or_true]; rfl)
    refine awp_seq ?_; refine awp_seq ?_; refine rgn fun pan K hp hK => ?_; refine hK _ ?_; clear hK hp K pan; refine awp_norm [1, 2, 3, 8, 21, 25] rfl rfl ?_
    refine awp_cond2 rfl (onB_intro (fun h3 => ?_) (fun h3 => ?_))
    · refine awp_skip ?_; refine awp_cond rfl ?_; refine rgn fun pan K hp hK => ?_; refine hK _ ?_; clear hK hp K pan
      refine ⟨_, sub_norm (slots := [1, 2, 3, 8]) rfl rfl, ?_⟩
      first
        | rfl
        | (simp only [rankF, h1, h2, h3, Bool.true_or, Bool.or_self]; done)
        | (simp only [rankF, h1, h2, h3, Bool.true_or, Bool.or_self]; rfl)
    refine awp_seq ?_; refine rgn fun pan K hp hK => ?_; refine hK _ ?_; clear hK hp K pan; refine awp_norm [1, 2, 3, 8, 21, 25] rfl rfl ?_
    refine awp_cond2 rfl (onB_intro (fun h4 => ?_) (fun h4 => ?_))
    · refine awp_skip ?_; refine awp_cond rfl ?_; refine rgn fun pan K hp hK => ?_; refine hK _ ?_; clear hK hp K pan
      refine ⟨_, sub_norm (slots := [1, 2, 3, 8]) rfl rfl, ?_⟩
      first
        | rfl
        | (simp only [rankF, h1, h2, h3, h4, Bool.true_or, Bool.or_true, Bool.or_self]; done)
        | (simp only [rankF, h1, h2, h3, h4, Bool.true_or, Bool.or_true, Bool.or_self]; rfl)
    refine rgn fun pan K hp hK => ?_; refine hK _ ?_; clear hK hp K pan; refine awp_norm [1, 2, 3, 8, 25] rfl rfl ?_
    refine awp_cond2 rfl (onB_intro (fun h5 => ?_) (fun h5 => ?_))
    · refine rgn fun pan K hp hK => ?_; refine hK _ ?_; clear hK hp K pan
      refine ⟨_, sub_norm (slots := [1, 2, 3, 8]) rfl rfl, ?_⟩
      first
        | rfl
        | (simp only [rankF, h1, h2, h3, h4, h5, Bool.or_true, Bool.or_self]; done)
        | (simp only [rankF, h1, h2, h3, h4, h5, Bool.or_true, Bool.or_self]; rfl)
    refine awp_skip ?_
    refine ⟨_, sub_norm (slots := [1, 2, 3, 8]) rfl rfl, ?_⟩
    first
      | rfl
      | (simp only [rankF, h1, h2, h3, h4, h5, Bool.or_self]; done)
      | (simp only [rankF, h1, h2, h3, h4, h5, Bool.or_self]; rfl)
  rintro Z rfl
  refine awp_seq ?_; refine awp_seq ?_; refine rgn fun pan K hp hK => ?_; refine hK _ ?_; clear hK hp K pan; refine awp_norm [1, 2, 3, 8, 30] rfl rfl ?_
  refine awp_cond2 rfl (onB_intro (fun h1 => ?_) (fun h1 => ?_))
  · refine awp_seq ?_; refine rgn fun pan K hp hK => ?_; refine hK _ ?_; clear hK hp K pan; refine awp_norm [6, 7] rfl rfl ?_; refine awp_ret ?_
    simp only [h1] at hG
    obtain ⟨rfl, rfl⟩ := Prod.mk.inj (Option.some.inj hG)
    exact ⟨_, [], _, [encS _, .d (.s (.bool _))], rfl, rfl, rfl, rfl, rfl, PWs.refl _, rfl⟩
  refine awp_skip ?_; refine awp_seq ?_; refine awp_seq ?_; refine rgn fun pan K hp hK => ?_; refine hK _ ?_; clear hK hp K pan; refine awp_norm [2, 3, 8, 33] rfl rfl ?_
  refine awp_cond2 rfl (onB_intro (fun h2 => ?_) (fun h2 => ?_))
  · refine awp_seq ?_; refine rgn fun pan K hp hK => ?_; show aCall _ _ _ _ _ _ _
    cases hr1 : exprG f (.mk op n nm l) 1 (IntKind.i64.wrap (d + 1)) with
    | none =>
      simp only [h1, h2, hr1] at hG
      cases hG
    | some v1 =>
      obtain ⟨a1, o1⟩ := v1
      have sz1 := exprG_size f _ _ _ _ _ hr1
      refine aCall_ret (L := []) rfl rfl rfl (ih (.mk op n nm l) 1 (IntKind.i64.wrap (d + 1)) _ _ hr1) rfl rfl rfl rfl ?_
      refine hK _ ?_; clear hK hp K pan; refine awp_norm [9, 10] rfl rfl ?_; refine awp_seq ?_; refine rgn fun pan K hp hK => ?_
      refine And.intro ((by first | omega | (simp only [ByteArray.size_append] at *; omega))) ?_
      refine And.intro ((by first | omega | (simp only [ByteArray.size_append] at *; omega))) ?_
      refine hK _ ?_; clear hK hp K pan; refine awp_norm [6, 7] rfl rfl ?_; refine awp_ret ?_
      simp only [h1, h2, hr1] at hG
      obtain ⟨hz, hr⟩ := fitG_some hG
      obtain ⟨rfl, rfl⟩ := Prod.mk.inj hr
      exact ⟨_, [], _, [encS _, .d (.s (.bool _))], rfl, rfl, rfl, rfl, rfl, PWs.refl _, rfl⟩
  refine awp_skip ?_
  refine awp_cut (fun Z => Z = ⟨[(2, .d (num d)), (3, .box 0 0), (8, .d (num (rankF op))), (11, .d (.s (.bool (namedG op))))], [.box 143 [.d (str op), .d (num n), .d (str nm), .d (.sl 4 (exs l))]]⟩) ?_ ?_
  · refine rgn fun pan K hp hK => ?_
    refine onB_intro (fun h3 => ?_) (fun h3 => ?_)
    · refine hK _ ?_; clear hK hp K pan
      refine ⟨_, sub_norm (slots := [2, 3, 8, 11]) rfl rfl, ?_⟩
      first
        | rfl
        | (simp only [namedG, h3, Bool.true_or]; done)
        | (simp only [namedG, h3, Bool.true_or]; rfl)
    refine hK _ ?_; clear hK hp K pan
    refine ⟨_, sub_norm (slots := [2, 3, 8, 11]) rfl rfl, ?_⟩
    first
      | rfl
      | (simp only [namedG, h3, Bool.false_or]; done)
      | (simp only [namedG, h1, h2, h3, Bool.true_or, Bool.false_or, Bool.or_true, Bool.or_false, Bool.not_true, Bool.not_false, Bool.true_and, Bool.false_and, Bool.and_false, Bool.and_true, Bool.or_self, Bool.and_self]; rfl)
  rintro Z rfl
  refine awp_seq ?_; refine rgn fun pan K hp hK => ?_; show aCall _ _ _ _ _ _ _
  cases hc : (chkS nm && chkS op && chkN n) with
  | false =>
    simp only [h1, h2, hc] at hG
    cases hG
  | true =>
    have hcc := hc
    simp only [Bool.and_eq_true] at hcc
    have hnm : nm.size ≤ 1073741824 := of_decide_eq_true hcc.1.1
    have hop : op.size ≤ 1073741824 := of_decide_eq_true hcc.1.2
    refine aCall_ret (L := []) rfl rfl rfl (isNameG_spec G nm (by omega)) rfl rfl rfl rfl ?_
    refine hK _ ?_; clear hK hp K pan; refine awp_norm [2, 3, 8, 11, 12] rfl rfl ?_; refine awp_seq ?_
    refine awp_cut (fun Z => Z = ⟨[(2, .d (num d)), (3, .box 0 0), (8, .d (num (rankF op))), (77, .d (.s (.bool (badG op n nm))))], [.box 143 [.d (str op), .d (num n), .d (str nm), .d (.sl 4 (exs l))]]⟩) ?_ ?_
    · refine rgn fun pan K hp hK => ?_
      refine onB_intro (fun h3 => ?_) (fun h3 => ?_)
      · refine hK _ ?_; clear hK hp K pan
        refine ⟨_, sub_norm (slots := [2, 3, 8, 77]) rfl rfl, ?_⟩
        first
          | rfl
          | (simp only [badG, h3, Bool.true_or]; done)
          | (simp only [badG, h3, Bool.true_or]; rfl)
      refine onB_intro (fun h4 => ?_) (fun h4 => ?_)
      · refine onB_intro (fun h5 => ?_) (fun h5 => ?_)
        · refine hK _ ?_; clear hK hp K pan
          refine ⟨_, sub_norm (slots := [2, 3, 8, 77]) rfl rfl, ?_⟩
          first
            | rfl
            | (simp only [badG, h3, h4, h5, Bool.true_or, Bool.or_true, Bool.and_self]; done)
            | (simp only [badG, h3, h4, h5, Bool.true_or, Bool.or_true, Bool.and_self]; rfl)
        refine onB_intro (fun h6 => ?_) (fun h6 => ?_)
        · refine hK _ ?_; clear hK hp K pan
          refine ⟨_, sub_norm (slots := [2, 3, 8, 77]) rfl rfl, ?_⟩
          first
            | rfl
            | (simp only [badG, h3, h4, h5, h6, Bool.false_or, Bool.true_and, Bool.and_false, Bool.or_self]; done)
            | (simp only [badG, h1, h2, hc, h3, h4, h5, h6, Bool.true_or, Bool.false_or, Bool.or_true, Bool.or_false, Bool.not_true, Bool.not_false, Bool.true_and, Bool.false_and, Bool.and_false, Bool.and_true, Bool.or_self, Bool.and_self]; rfl)
        refine hK _ ?_; clear hK hp K pan
        refine ⟨_, sub_norm (slots := [2, 3, 8, 77]) rfl rfl, ?_⟩
        first
          | rfl
          | (simp only [badG, h3, h4, h5, h6, Bool.false_and, Bool.and_false, Bool.or_self]; done)
          | (simp only [badG, h3, h4, h5, h6, Bool.false_and, Bool.and_false, Bool.or_self]; rfl)
      refine onB_intro (fun h5 => ?_) (fun h5 => ?_)
      · refine hK _ ?_; clear hK hp K pan
        refine ⟨_, sub_norm (slots := [2, 3, 8, 77]) rfl rfl, ?_⟩
        first
          | rfl
          | (simp only [badG, h3, h4, h5, Bool.false_or, Bool.true_and, Bool.false_and, Bool.or_self]; done)
          | (simp only [badG, h1, h2, hc, h3, h4, h5, Bool.true_or, Bool.false_or, Bool.or_true, Bool.or_false, Bool.not_true, Bool.not_false, Bool.true_and, Bool.false_and, Bool.and_false, Bool.and_true, Bool.or_self, Bool.and_self]; rfl)
      refine hK _ ?_; clear hK hp K pan
      refine ⟨_, sub_norm (slots := [2, 3, 8, 77]) rfl rfl, ?_⟩
      first
        | rfl
        | (simp only [badG, h3, h4, h5, Bool.false_and, Bool.or_self]; done)
        | (simp only [badG, h3, h4, h5, Bool.false_and, Bool.or_self]; rfl)
    rintro Z rfl
    refine awp_cond2 rfl (onB_intro (fun h3 => ?_) (fun h3 => ?_))
    · refine awp_seq ?_; refine rgn fun pan K hp hK => ?_; refine hK _ ?_; clear hK hp K pan; refine awp_norm [6, 7] rfl rfl ?_; refine awp_ret ?_
      simp only [h1, h2, hc, h3] at hG
      obtain ⟨rfl, rfl⟩ := Prod.mk.inj (Option.some.inj hG)
      exact ⟨_, [], _, [encS _, .d (.s (.bool _))], rfl, rfl, rfl, rfl, rfl, PWs.refl _, rfl⟩
    refine awp_skip ?_; refine awp_seq ?_; refine awp_seq ?_; refine rgn fun pan K hp hK => ?_; refine hK _ ?_; clear hK hp K pan; refine awp_norm [2, 3, 8, 79] rfl rfl ?_; refine awp_block ?_; refine awp_seq ?_; refine rgn fun pan K hp hK => ?_; refine hK _ ?_; clear hK hp K pan; refine awp_norm [2, 3, 8, 79, 80] rfl rfl ?_
    refine awp_cond2 rfl (onB_intro (fun h4 => ?_) (fun h4 => ?_))
    · refine awp_seq ?_
      refine (awp_draw TT_ok mixed p88_21 [] (fun _ => true) (by kernel_rfl) fun pan K hp hK => ?_)
      show aCall _ _ _ _ _ _ _
      refine aCall_ret (L := []) rfl rfl rfl (dec_spec G n hcc.2) rfl rfl rfl rfl ?_
      refine onB_intro (fun h5 => ?_) (fun h5 => ?_)
      · refine onB_intro (fun h6 => ?_) (fun h6 => ?_)
        · refine hK _ ?_; clear hK hp K pan; refine awp_norm [6, 7] rfl rfl ?_; refine awp_ret ?_
          simp only [h1, h2, hc, h3, h4, h5, h6] at hG
          obtain ⟨hz, hr⟩ := fitG_some hG
          obtain ⟨rfl, rfl⟩ := Prod.mk.inj hr
          exact ⟨_, [], _, [encS _, .d (.s (.bool _))], rfl, rfl, rfl, rfl, rfl, (by first | exact PWs.refl _ | (simp only [h1, h2, hc, h3, h4, h5, h6, Bool.true_or, Bool.false_or, Bool.or_true, Bool.or_false, Bool.not_true, Bool.not_false, Bool.true_and, Bool.false_and, Bool.and_false, Bool.and_true, Bool.or_self, Bool.and_self]; exact PWs.refl _)), rfl⟩
        refine hK _ ?_; clear hK hp K pan; refine awp_norm [6, 7] rfl rfl ?_; refine awp_ret ?_
        simp only [h1, h2, hc, h3, h4, h5, h6] at hG
        obtain ⟨hz, hr⟩ := fitG_some hG
        obtain ⟨rfl, rfl⟩ := Prod.mk.inj hr
        exact ⟨_, [], _, [encS _, .d (.s (.bool _))], rfl, rfl, rfl, rfl, rfl, (by first | exact PWs.refl _ | (simp only [h1, h2, hc, h3, h4, h5, h6, Bool.true_or, Bool.false_or, Bool.or_true, Bool.or_false, Bool.not_true, Bool.not_false, Bool.true_and, Bool.false_and, Bool.and_false, Bool.and_true, Bool.or_self, Bool.and_self]; exact PWs.refl _)), rfl⟩
      refine hK _ ?_; clear hK hp K pan; refine awp_norm [6, 7] rfl rfl ?_; refine awp_ret ?_
      simp only [h1, h2, hc, h3, h4, h5] at hG
      obtain ⟨hz, hr⟩ := fitG_some hG
      obtain ⟨rfl, rfl⟩ := Prod.mk.inj hr
      exact ⟨_, [], _, [encS _, .d (.s (.bool _))], rfl, rfl, rfl, rfl, rfl, (by first | exact PWs.refl _ | (simp only [h1, h2, hc, h3, h4, h5, Bool.true_or, Bool.false_or, Bool.or_true, Bool.or_false, Bool.not_true, Bool.not_false, Bool.true_and, Bool.false_and, Bool.and_false, Bool.and_true, Bool.or_self, Bool.and_self]; exact PWs.refl _)), rfl⟩
    refine awp_seq ?_; refine rgn fun pan K hp hK => ?_; refine hK _ ?_; clear hK hp K pan; refine awp_norm [2, 3, 8, 79, 99] rfl rfl ?_
    refine awp_cond2 rfl (onB_intro (fun h5 => ?_) (fun h5 => ?_))
    · refine awp_seq ?_
      refine (awp_draw TT_ok mixed p88_23 [] (fun _ => true) (by kernel_rfl) fun pan K hp hK => ?_)
      refine hK _ ?_; clear hK hp K pan; refine awp_norm [6, 7] rfl rfl ?_; refine awp_ret ?_
      simp only [h1, h2, hc, h3, h4, h5] at hG
      obtain ⟨hz, hr⟩ := fitG_some hG
      obtain ⟨rfl, rfl⟩ := Prod.mk.inj hr
      exact ⟨_, [], _, [encS _, .d (.s (.bool _))], rfl, rfl, rfl, rfl, rfl, PWs.refl _, rfl⟩
    refine awp_cut (fun Z => Z = ⟨[(2, .d (num d)), (3, .box 0 0), (8, .d (num (rankF op))), (107, .d (.s (.bool ((op.toList == (⟨#[97, 116]⟩ : ByteArray).toList) || (op.toList == (⟨#[110, 101, 103]⟩ : ByteArray).toList)))))], [.box 143 [.d (str op), .d (num n), .d (str nm), .d (.sl 4 (exs l))]]⟩) ?_ ?_
    · refine awp_seq ?_; refine rgn fun pan K hp hK => ?_; refine hK _ ?_; clear hK hp K pan; refine awp_norm [2, 3, 8, 79, 107] rfl rfl ?_
      refine awp_cond2 rfl (onB_intro (fun h6 => ?_) (fun h6 => ?_))
      · refine awp_skip ?_
        refine ⟨_, sub_norm (slots := [2, 3, 8, 107]) rfl rfl, ?_⟩
        first
          | rfl
          | (simp only [h6, Bool.true_or]; done)
          | (simp only [h1, h2, hc, h3, h4, h5, h6, Bool.true_or, Bool.false_or, Bool.or_true, Bool.or_false, Bool.not_true, Bool.not_false, Bool.true_and, Bool.false_and, Bool.and_false, Bool.and_true, Bool.or_self, Bool.and_self]; rfl)
      refine rgn fun pan K hp hK => ?_; refine hK _ ?_; clear hK hp K pan
      refine ⟨_, sub_norm (slots := [2, 3, 8, 107]) rfl rfl, ?_⟩
      first
        | rfl
        | (simp only [h6, Bool.false_or]; done)
        | (simp only [h1, h2, hc, h3, h4, h5, h6, Bool.true_or, Bool.false_or, Bool.or_true, Bool.or_false, Bool.not_true, Bool.not_false, Bool.true_and, Bool.false_and, Bool.and_false, Bool.and_true, Bool.or_self, Bool.and_self]; rfl)
    rintro Z rfl
    refine awp_cond2 rfl (onB_intro (fun h6 => ?_) (fun h6 => ?_))
    · refine awp_seq ?_; refine awp_seq ?_; refine rgn fun pan K hp hK => ?_; refine hK _ ?_; clear hK hp K pan; refine awp_norm [2, 3, 113] rfl rfl ?_
      refine awp_cond2 rfl (onB_intro (fun h7 => ?_) (fun h7 => ?_))
      · refine awp_seq ?_; refine rgn fun pan K hp hK => ?_; refine hK _ ?_; clear hK hp K pan; refine awp_norm [6, 7] rfl rfl ?_; refine awp_ret ?_
        simp only [h1, h2, hc, h3, h4, h5, h6, h7] at hG
        obtain ⟨rfl, rfl⟩ := Prod.mk.inj (Option.some.inj hG)
        exact ⟨_, [], _, [encS _, .d (.s (.bool _))], rfl, rfl, rfl, rfl, rfl, PWs.refl _, rfl⟩
      obtain ⟨x, rfl⟩ := ex_ne1 h7
      obtain ⟨p1, n1, m1, l1⟩ := x
      refine awp_skip ?_; refine awp_seq ?_; refine awp_seq ?_; refine rgn fun pan K hp hK => ?_; refine hK _ ?_; clear hK hp K pan; refine awp_norm [2, 3, 116] rfl rfl ?_
      refine awp_cond2 rfl (onB_intro (fun h8 => ?_) (fun h8 => ?_))
      · refine awp_seq ?_; refine rgn fun pan K hp hK => ?_
        refine And.intro ((by omega)) (Exists.intro _ (And.intro (rfl) ?_))
        show aCall _ _ _ _ _ _ _
        cases hr1 : exprG f (.mk p1 n1 m1 l1) 1 (IntKind.i64.wrap (d + 1)) with
        | none =>
          simp only [h1, h2, hc, h3, h4, h5, h7, h8, hr1] at hG
          cases hG
        | some v1 =>
          obtain ⟨a1, o1⟩ := v1
          have sz1 := exprG_size f _ _ _ _ _ hr1
          refine aCall_ret (L := []) rfl rfl rfl (ih (.mk p1 n1 m1 l1) 1 (IntKind.i64.wrap (d + 1)) _ _ hr1) rfl rfl rfl rfl ?_
          refine hK _ ?_; clear hK hp K pan; refine awp_norm [3, 13, 14] rfl rfl ?_; refine awp_seq ?_; refine rgn fun pan K hp hK => ?_
          refine And.intro ((by first | omega | (simp only [ByteArray.size_append] at *; omega))) ?_
          refine And.intro ((by first | omega | (simp only [ByteArray.size_append] at *; omega))) ?_
          refine And.intro ((by first | omega | (simp only [ByteArray.size_append] at *; omega))) ?_
          refine hK _ ?_; clear hK hp K pan; refine awp_norm [6, 7] rfl rfl ?_; refine awp_ret ?_
          simp only [h1, h2, hc, h3, h4, h5, h7, h8, hr1] at hG
          obtain ⟨hz, hr⟩ := fitG_some hG
          obtain ⟨rfl, rfl⟩ := Prod.mk.inj hr
          exact ⟨_, [], _, [encS _, .d (.s (.bool _))], rfl, rfl, rfl, rfl, rfl, PWs.refl _, rfl⟩
      have h8n : (op.toList == (⟨#[110, 101, 103]⟩ : ByteArray).toList) = true := by
        rw [h8, Bool.false_or] at h6
        exact h6
      refine awp_skip ?_; refine awp_seq ?_; refine rgn fun pan K hp hK => ?_
      refine And.intro ((by omega)) (Exists.intro _ (And.intro (rfl) ?_))
      show aCall _ _ _ _ _ _ _
      cases hr1 : exprG f (.mk p1 n1 m1 l1) 3 (IntKind.i64.wrap (d + 1)) with
      | none =>
        simp only [h1, h2, hc, h3, h4, h5, h7, h8, h8n, hr1, Bool.or_true] at hG
        cases hG
      | some v1 =>
        obtain ⟨a1, o1⟩ := v1
        have sz1 := exprG_size f _ _ _ _ _ hr1
        refine aCall_ret (L := []) rfl rfl rfl (ih (.mk p1 n1 m1 l1) 3 (IntKind.i64.wrap (d + 1)) _ _ hr1) rfl rfl rfl rfl ?_
        refine hK _ ?_; clear hK hp K pan; refine awp_norm [15, 16] rfl rfl ?_; refine awp_seq ?_; refine rgn fun pan K hp hK => ?_
        refine And.intro ((by first | omega | (simp only [ByteArray.size_append] at *; omega))) ?_
        refine hK _ ?_; clear hK hp K pan; refine awp_norm [6, 7] rfl rfl ?_; refine awp_ret ?_
        simp only [h1, h2, hc, h3, h4, h5, h7, h8, h8n, hr1, Bool.or_true] at hG
        obtain ⟨hz, hr⟩ := fitG_some hG
        obtain ⟨rfl, rfl⟩ := Prod.mk.inj hr
        exact ⟨_, [], _, [encS _, .d (.s (.bool _))], rfl, rfl, rfl, rfl, rfl, PWs.refl _, rfl⟩
    refine awp_skip ?_; refine awp_seq ?_; refine awp_seq ?_; refine rgn fun pan K hp hK => ?_
    refine onB_intro (fun h7 => ?_) (fun h7 => ?_)
    · refine hK _ ?_; clear hK hp K pan; refine awp_norm [2, 3, 8, 154] rfl rfl ?_; refine awp_cond rfl ?_; refine awp_seq ?_; refine rgn fun pan K hp hK => ?_; refine hK _ ?_; clear hK hp K pan; refine awp_norm [6, 7] rfl rfl ?_; refine awp_ret ?_
      simp only [h1, h2, hc, h3, h4, h5, h6, h7] at hG
      obtain ⟨rfl, rfl⟩ := Prod.mk.inj (Option.some.inj hG)
      exact ⟨_, [], _, [encS _, .d (.s (.bool _))], rfl, rfl, rfl, rfl, rfl, PWs.refl _, rfl⟩
    refine hK _ ?_; clear hK hp K pan; refine awp_norm [2, 3, 8, 154] rfl rfl ?_
    refine awp_cond2 rfl (onB_intro (fun h8 => ?_) (fun h8 => ?_))
    · refine awp_seq ?_; refine rgn fun pan K hp hK => ?_; refine hK _ ?_; clear hK hp K pan; refine awp_norm [6, 7] rfl rfl ?_; refine awp_ret ?_
      simp only [h1, h2, hc, h3, h4, h5, h6, h7, h8] at hG
      obtain ⟨rfl, rfl⟩ := Prod.mk.inj (Option.some.inj hG)
      exact ⟨_, [], _, [encS _, .d (.s (.bool _))], rfl, rfl, rfl, rfl, rfl, PWs.refl _, rfl⟩
    obtain ⟨x, y, rfl⟩ := ex_ne2 h8
    obtain ⟨p1, n1, m1, l1⟩ := x
    obtain ⟨p2, n2, m2, l2⟩ := y
    refine awp_skip ?_; refine awp_seq ?_; refine rgn fun pan K hp hK => ?_
    refine And.intro ((by omega)) (Exists.intro _ (And.intro (rfl) ?_))
    show aCall _ _ _ _ _ _ _
    cases hr1 : exprG f (.mk p1 n1 m1 l1) (rankF op) d with
    | none =>
      simp only [h1, h2, hc, h3, h4, h5, h6, h7, h8, hr1] at hG
      cases hG
    | some v1 =>
      obtain ⟨a1, o1⟩ := v1
      have sz1 := exprG_size f _ _ _ _ _ hr1
      refine aCall_ret (L := []) rfl rfl rfl (ih (.mk p1 n1 m1 l1) (rankF op) d _ _ hr1) rfl rfl rfl rfl ?_
      refine hK _ ?_; clear hK hp K pan; refine awp_norm [2, 3, 8, 17, 18] rfl rfl ?_; refine awp_seq ?_; refine awp_seq ?_; refine rgn fun pan K hp hK => ?_
      refine onB_intro (fun h9 => ?_) (fun h9 => ?_)
      · refine hK _ ?_; clear hK hp K pan; refine awp_norm [2, 3, 8, 17, 171] rfl rfl ?_; refine awp_cond rfl ?_; refine awp_seq ?_; refine rgn fun pan K hp hK => ?_; refine hK _ ?_; clear hK hp K pan; refine awp_norm [6, 7] rfl rfl ?_; refine awp_ret ?_
        simp only [h1, h2, hc, h3, h4, h5, h6, h7, h8, hr1, h9] at hG
        obtain ⟨rfl, rfl⟩ := Prod.mk.inj (Option.some.inj hG)
        exact ⟨_, [], _, [encS _, .d (.s (.bool _))], rfl, rfl, rfl, rfl, rfl, PWs.refl _, rfl⟩
      refine hK _ ?_; clear hK hp K pan; refine awp_norm [2, 3, 8, 17, 171] rfl rfl ?_
      refine awp_cond2 rfl (onB_intro (fun h10 => ?_) (fun h10 => ?_))
      · refine awp_seq ?_; refine rgn fun pan K hp hK => ?_; refine hK _ ?_; clear hK hp K pan; refine awp_norm [6, 7] rfl rfl ?_; refine awp_ret ?_
        simp only [h1, h2, hc, h3, h4, h5, h6, h7, h8, hr1, h9, h10] at hG
        obtain ⟨rfl, rfl⟩ := Prod.mk.inj (Option.some.inj hG)
        exact ⟨_, [], _, [encS _, .d (.s (.bool _))], rfl, rfl, rfl, rfl, rfl, PWs.refl _, rfl⟩
      refine awp_skip ?_; refine awp_seq ?_; refine rgn fun pan K hp hK => ?_
      refine And.intro ((by omega)) (Exists.intro _ (And.intro (rfl) ?_))
      show aCall _ _ _ _ _ _ _
      cases hr2 : exprG f (.mk p2 n2 m2 l2) (IntKind.i64.wrap (rankF op + 1)) d with
      | none =>
        simp only [h1, h2, hc, h3, h4, h5, h6, h7, h8, hr1, h9, h10, hr2] at hG
        cases hG
      | some v2 =>
        obtain ⟨a2, o2⟩ := v2
        have sz2 := exprG_size f _ _ _ _ _ hr2
        refine aCall_ret (L := []) rfl rfl rfl (ih (.mk p2 n2 m2 l2) (IntKind.i64.wrap (rankF op + 1)) d _ _ hr2) rfl rfl rfl rfl ?_
        refine hK _ ?_; clear hK hp K pan; refine awp_norm [3, 17, 18, 19] rfl rfl ?_; refine awp_seq ?_; refine rgn fun pan K hp hK => ?_
        refine And.intro ((by first | omega | (simp only [ByteArray.size_append] at *; omega))) ?_
        refine And.intro ((by first | omega | (simp only [ByteArray.size_append] at *; omega))) ?_
        refine And.intro ((by first | omega | (simp only [ByteArray.size_append] at *; omega))) ?_
        refine And.intro ((by first | omega | (simp only [ByteArray.size_append] at *; omega))) ?_
        refine hK _ ?_; clear hK hp K pan; refine awp_norm [6, 7] rfl rfl ?_; refine awp_ret ?_
        simp only [h1, h2, hc, h3, h4, h5, h6, h7, h8, hr1, h9, h10, hr2] at hG
        obtain ⟨hz, hr⟩ := fitG_some hG
        obtain ⟨rfl, rfl⟩ := Prod.mk.inj hr
        exact ⟨_, [], _, [encS _, .d (.s (.bool _))], rfl, rfl, rfl, rfl, rfl, PWs.refl _, rfl⟩
theorem exprG_spec (G : Glob) : ∀ f, ExprGOk G f
  | 0 => fun e least d s b h => by simp only [exprG] at h; cases h
  | f + 1 => exprG_step G f (exprG_spec G f)
end Go.Abs
end
section
namespace Go.Abs
open Go Go.Proofs
attribute [local irreducible] aCall AWp Sub Spec
def sepG (i : Nat) (acc sep : ByteArray) : ByteArray := match decide ((i : Int) > 0) with
  | true => acc ++ sep
  | false => acc
def listG (f : Nat) : List Ex → Nat → ByteArray → GT
  | [], _, acc => some (acc, true)
  | e :: r, i, acc => match exprG f e 1 1 with
    | none => none
    | some (s, ok) => match (!ok) with
      | true => some (⟨#[]⟩, false)
      | false => match chkS (sepG i acc ⟨#[44, 32]⟩ ++ s) with
        | true => listG f r (i + 1) (sepG i acc ⟨#[44, 32]⟩ ++ s)
        | false => none
def andG (f : Nat) : List Ts → Nat → ByteArray → Option (Option ByteArray)
  | [], _, acc => some (some acc)
  | t :: r, i, acc => match exprG f t.a 1 1 with
    | none => none
    | some (a, ok) => match exprG f t.b 1 1 with
      | none => none
      | some (b, fine) => match (((!ok) || (!fine)) || (!isRelG t.rel)) with
        | true => some none
        | false => match chkS ((((sepG i acc ⟨#[32, 97, 110, 100, 32]⟩ ++ a) ++ ⟨#[32]⟩) ++ t.rel ++ ⟨#[32]⟩) ++ b) with
          | true => andG f r (i + 1) ((((sepG i acc ⟨#[32, 97, 110, 100, 32]⟩ ++ a) ++ ⟨#[32]⟩) ++ t.rel ++ ⟨#[32]⟩) ++ b)
          | false => none
def trueG (row : List Ts) (acc : ByteArray) : ByteArray := match (((tss row).length : Int) == 0) with
  | true => acc ++ ⟨#[116, 114, 117, 101]⟩
  | false => acc
def orG (f : Nat) : List (List Ts) → Nat → ByteArray → GT
  | [], _, acc => some (acc, true)
  | row :: r, i, acc => match chkL row.length && chkS (trueG row (sepG i acc ⟨#[32, 111, 114, 32]⟩)) with
    | false => none
    | true => match andG f row 0 (trueG row (sepG i acc ⟨#[32, 111, 114, 32]⟩)) with
      | none => none
      | some none => some (⟨#[]⟩, false)
      | some (some acc3) => orG f r (i + 1) acc3
def condG (f : Nat) (c : List (List Ts)) : GT := match chkL c.length with
  | false => none
  | true => match (((cnd c).length : Int) == 0) with
    | true => some (⟨#[102, 97, 108, 115, 101]⟩, true)
    | false => orG f c 0 ⟨#[]⟩
theorem sep_size {i : Nat} {acc sep : ByteArray} {m : Nat} (h : acc.size ≤ m) : (sepG i acc sep).size ≤ m + sep.size := by
  unfold sepG
  split
  · rw [ByteArray.size_append]; omega
  omega
theorem chkS_le {a : ByteArray} (h : chkS a = true) : a.size ≤ 1073741824 := of_decide_eq_true h
theorem listG_spec (G : Glob) (f : Nat) (l : List Ex) (hn : l.length ≤ 1073741824) (s : ByteArray) (b : Bool) (hG : listG f l 0 ⟨#[]⟩ = some (s, b)) : Spec Tryz.prog G 218 [.d (.sl 4 (exs l))] [] (.ret (.tup [.d (str s), .d (.s (.bool b))])) [] := by
  refine spec_of_awp2 TT_ok (N := 32) Tryz.func218 rfl (by rfl) (Nat.le_refl _) rfl ?_
  refine awp_seq ?_; refine rgn fun pan K hp hK => ?_; refine hK _ ?_; clear hK hp K pan; refine awp_norm [0] rfl rfl ?_; refine awp_seq ?_; refine rgn fun pan K hp hK => ?_; refine hK _ ?_; clear hK hp K pan; refine awp_norm [0, 4] rfl rfl ?_; refine awp_seq ?_; refine awp_seq ?_; refine rgn fun pan K hp hK => ?_; refine hK _ ?_; clear hK hp K pan; refine awp_norm [0, 4, 5] rfl rfl ?_; refine awp_block ?_
  refine awp_loop (fun k Y => ∃ (d1 e1 : List Ex) (acc : ByteArray), k = e1.length ∧ l = d1 ++ e1 ∧ listG f e1 d1.length acc = some (s, b) ∧ acc.size ≤ 1073741824 ∧ Y = ⟨[(0, .d (.sl 4 (exs l))), (4, .d (str acc)), (5, .d (num d1.length))], []⟩) (l.length) (⟨[], l, ⟨#[]⟩, rfl, rfl, hG, Nat.zero_le _, rfl⟩) ?_
  clear hG
  rintro k Y ⟨d1, e1, acc, rfl, hl1, hG, hz1_0, rfl⟩
  have hll1 : (exs l).length = d1.length + e1.length := by rw [ex_len, hl1, List.length_append]
  have hdl1 : d1.length + e1.length ≤ 1073741824 := by rw [hl1, List.length_append] at hn; exact hn
  refine awp_seq ?_; refine awp_seq ?_; refine rgn fun pan K hp hK => ?_; refine hK _ ?_; clear hK hp K pan; refine awp_norm [0, 4, 5, 11] rfl rfl ?_
  refine awp_cond2 rfl (onB_intro (fun h1 => ?_) (fun h1 => ?_))
  · have h1' := of_decide_eq_true h1
    rw [hll1] at h1'
    cases e1 with
    | nil => simp only [List.length_nil] at h1'; omega
    | cons x e1b =>
    obtain ⟨p1, n1, m1, l1⟩ := x
    subst hl1
    simp only [List.length_cons] at hdl1
    simp only [listG] at hG
    refine awp_skip ?_; refine awp_seq ?_; refine awp_block ?_; refine awp_seq ?_; refine awp_seq ?_; refine rgn fun pan K hp hK => ?_; refine hK _ ?_; clear hK hp K pan; refine awp_norm [0, 4, 5, 15] rfl rfl ?_
    refine awp_cond2 rfl (onB_intro (fun h2 => ?_) (fun h2 => ?_))
    · refine rgn fun pan K hp hK => ?_
      refine And.intro ((by first | omega | (have zl0 : (⟨#[44, 32]⟩ : ByteArray).size = 2 := rfl; (try simp only [ByteArray.size_append] at *); omega))) ?_
      refine hK _ ?_; clear hK hp K pan; refine awp_norm [0, 4, 5] rfl rfl ?_; refine awp_seq ?_; refine rgn fun pan K hp hK => ?_
      refine And.intro ((by omega)) (Exists.intro _ (And.intro (exs_at rfl) ?_))
      show aCall _ _ _ _ _ _ _
      cases hr1 : exprG f (.mk p1 n1 m1 l1) 1 1 with
      | none =>
        simp only [hr1] at hG
        cases hG
      | some v1 =>
        obtain ⟨a1, o1⟩ := v1
        have sz1 := exprG_size f _ _ _ _ _ hr1
        refine aCall_ret (L := []) rfl rfl rfl (exprG_spec G f (.mk p1 n1 m1 l1) 1 1 _ _ hr1) rfl rfl rfl rfl ?_
        refine hK _ ?_; clear hK hp K pan; refine awp_norm [0, 4, 5, 6, 7] rfl rfl ?_; refine awp_seq ?_; refine awp_seq ?_; refine rgn fun pan K hp hK => ?_; refine hK _ ?_; clear hK hp K pan; refine awp_norm [0, 4, 5, 6, 27] rfl rfl ?_
        refine awp_cond2 rfl (onB_intro (fun h3 => ?_) (fun h3 => ?_))
        · refine awp_seq ?_; refine rgn fun pan K hp hK => ?_; refine hK _ ?_; clear hK hp K pan; refine awp_norm [2, 3] rfl rfl ?_; refine awp_ret ?_
          simp only [hr1, h3] at hG
          obtain ⟨rfl, rfl⟩ := Prod.mk.inj (Option.some.inj hG)
          exact ⟨_, [], _, [encS _, .d (.s (.bool _))], rfl, rfl, rfl, rfl, rfl, PWs.refl _, rfl⟩
        cases hc : chkS (sepG d1.length acc ⟨#[44, 32]⟩ ++ a1) with
        | false => simp only [hr1, h3, hc] at hG; cases hG
        | true =>
        have hq := chkS_le hc
        simp only [sepG, h2] at hq hc
        simp only [sepG, h2, hr1, h3, hc] at hG
        refine awp_skip ?_; refine rgn fun pan K hp hK => ?_
        refine And.intro ((by first | omega | (have zl0 : (⟨#[44, 32]⟩ : ByteArray).size = 2 := rfl; (try simp only [ByteArray.size_append] at *); omega))) ?_
        refine hK _ ?_; clear hK hp K pan; refine awp_norm [0, 4, 5] rfl rfl ?_; refine rgn fun pan K hp hK => ?_; refine hK _ ?_; clear hK hp K pan
        exact ⟨_, Nat.lt_succ_self _, _, sub_norm (slots := [0, 4, 5]) rfl rfl, d1 ++ [.mk p1 n1 m1 l1], e1b, _, rfl, by simp, (by rw [List.length_append]; exact hG), hq, by rw [List.length_append, wrapId (by omega) (by omega)]; rfl⟩
    refine awp_skip ?_; refine awp_seq ?_; refine rgn fun pan K hp hK => ?_
    refine And.intro ((by omega)) (Exists.intro _ (And.intro (exs_at rfl) ?_))
    show aCall _ _ _ _ _ _ _
    cases hr1 : exprG f (.mk p1 n1 m1 l1) 1 1 with
    | none =>
      simp only [hr1] at hG
      cases hG
    | some v1 =>
      obtain ⟨a1, o1⟩ := v1
      have sz1 := exprG_size f _ _ _ _ _ hr1
      refine aCall_ret (L := []) rfl rfl rfl (exprG_spec G f (.mk p1 n1 m1 l1) 1 1 _ _ hr1) rfl rfl rfl rfl ?_
      refine hK _ ?_; clear hK hp K pan; refine awp_norm [0, 4, 5, 6, 7] rfl rfl ?_; refine awp_seq ?_; refine awp_seq ?_; refine rgn fun pan K hp hK => ?_; refine hK _ ?_; clear hK hp K pan; refine awp_norm [0, 4, 5, 6, 27] rfl rfl ?_
      refine awp_cond2 rfl (onB_intro (fun h3 => ?_) (fun h3 => ?_))
      · refine awp_seq ?_; refine rgn fun pan K hp hK => ?_; refine hK _ ?_; clear hK hp K pan; refine awp_norm [2, 3] rfl rfl ?_; refine awp_ret ?_
        simp only [hr1, h3] at hG
        obtain ⟨rfl, rfl⟩ := Prod.mk.inj (Option.some.inj hG)
        exact ⟨_, [], _, [encS _, .d (.s (.bool _))], rfl, rfl, rfl, rfl, rfl, PWs.refl _, rfl⟩
      cases hc : chkS (sepG d1.length acc ⟨#[44, 32]⟩ ++ a1) with
      | false => simp only [hr1, h3, hc] at hG; cases hG
      | true =>
      have hq := chkS_le hc
      simp only [sepG, h2] at hq hc
      simp only [sepG, h2, hr1, h3, hc] at hG
      refine awp_skip ?_; refine rgn fun pan K hp hK => ?_
      refine And.intro ((by first | omega | (have zl0 : (⟨#[44, 32]⟩ : ByteArray).size = 2 := rfl; (try simp only [ByteArray.size_append] at *); omega))) ?_
      refine hK _ ?_; clear hK hp K pan; refine awp_norm [0, 4, 5] rfl rfl ?_; refine rgn fun pan K hp hK => ?_; refine hK _ ?_; clear hK hp K pan
      exact ⟨_, Nat.lt_succ_self _, _, sub_norm (slots := [0, 4, 5]) rfl rfl, d1 ++ [.mk p1 n1 m1 l1], e1b, _, rfl, by simp, (by rw [List.length_append]; exact hG), hq, by rw [List.length_append, wrapId (by omega) (by omega)]; rfl⟩
  have h1' := of_decide_eq_false h1
  rw [hll1] at h1'
  obtain rfl : e1 = [] := List.eq_nil_of_length_eq_zero (by omega)
  simp only [listG] at hG
  refine awp_exit ?_
  refine awp_norm [4] rfl rfl ?_; refine awp_seq ?_; refine rgn fun pan K hp hK => ?_; refine hK _ ?_; clear hK hp K pan; refine awp_norm [2, 3] rfl rfl ?_; refine awp_ret ?_
  obtain ⟨rfl, rfl⟩ := Prod.mk.inj (Option.some.inj hG)
  exact ⟨_, [], _, [encS _, .d (.s (.bool _))], rfl, rfl, rfl, rfl, rfl, PWs.refl _, rfl⟩
theorem indent_succ (k : Nat) : indent k ++ ⟨#[32, 32]⟩ = indent (k + 1) := by
  apply ByteArray.ext
  rw [ByteArray.data_append]
  apply Array.ext'
  rw [Array.toList_append]
  show Lib.repeatL _ k ++ _ = Lib.repeatL _ (k + 1)
  rw [Lib.repeatL_add, Lib.repeatL_one]
theorem blanks_spec (G : Glob) (k : Nat) (hk : k ≤ 1000000) : Spec Tryz.prog G 216 [.d (num k)] [] (.ret (.d (str (indent k)))) [] := by
  refine spec_of_awp2 TT_ok (N := 13) Tryz.func216 rfl (by rfl) (Nat.le_refl _) rfl ?_
  refine awp_seq ?_; refine rgn fun pan K hp hK => ?_; refine hK _ ?_; clear hK hp K pan; refine awp_norm [0] rfl rfl ?_; refine awp_seq ?_; refine rgn fun pan K hp hK => ?_; refine hK _ ?_; clear hK hp K pan; refine awp_norm [0, 3] rfl rfl ?_; refine awp_seq ?_; refine awp_seq ?_; refine rgn fun pan K hp hK => ?_; refine hK _ ?_; clear hK hp K pan; refine awp_norm [0, 3, 4] rfl rfl ?_; refine awp_block ?_
  refine awp_loop (fun m Y => ∃ j : Nat, m = k - j ∧ j ≤ k ∧ Y = ⟨[(0, .d (num k)), (3, .d (str (indent j))), (4, .d (num j))], []⟩) (k) (⟨0, rfl, Nat.zero_le _, rfl⟩) ?_
  rintro m Y ⟨j, rfl, hj, rfl⟩
  refine awp_seq ?_; refine awp_seq ?_; refine rgn fun pan K hp hK => ?_; refine hK _ ?_; clear hK hp K pan; refine awp_norm [0, 3, 4, 7] rfl rfl ?_
  refine awp_cond2 rfl (onB_intro (fun h1 => ?_) (fun h1 => ?_))
  · have h1' := of_decide_eq_true h1
    refine awp_skip ?_; refine awp_seq ?_; refine awp_block ?_; refine rgn fun pan K hp hK => ?_
    refine And.intro ((by rw [indent_size]; show _ + 2 ≤ _; omega)) ?_
    refine hK _ ?_; clear hK hp K pan; refine awp_norm [0, 3, 4] rfl rfl ?_; refine rgn fun pan K hp hK => ?_; refine hK _ ?_; clear hK hp K pan
    exact ⟨k - (j + 1), by omega, _, sub_norm (slots := [0, 3, 4]) rfl rfl, j + 1, rfl, by omega, by rw [indent_succ, wrapId (by omega) (by omega)]; rfl⟩
  have h1' := of_decide_eq_false h1
  obtain rfl : j = k := by omega
  refine awp_exit ?_
  refine awp_norm [3] rfl rfl ?_; refine awp_seq ?_; refine rgn fun pan K hp hK => ?_; refine hK _ ?_; clear hK hp K pan; refine awp_norm [2] rfl rfl ?_; refine awp_ret ?_
  exact ⟨_, [], _, [encS _], rfl, rfl, rfl, rfl, rfl, PWs.refl _, rfl⟩
theorem condG_spec (G : Glob) (f : Nat) (c : List (List Ts)) (s : ByteArray) (b : Bool) (hG : condG f c = some (s, b)) : Spec Tryz.prog G 217 [.d (.sl 1 (cnd c))] [] (.ret (.tup [.d (str s), .d (.s (.bool b))])) [] := by
  unfold condG at hG
  cases hcl : chkL c.length with
  | false => rw [hcl] at hG; cases hG
  | true =>
  rw [hcl] at hG
  have hn : c.length ≤ 1073741824 := of_decide_eq_true hcl
  simp only at hG
  refine spec_of_awp2 TT_ok (N := 106) Tryz.func217 rfl (by rfl) (Nat.le_refl _) rfl ?_
  refine awp_seq ?_; refine rgn fun pan K hp hK => ?_; refine hK _ ?_; clear hK hp K pan; refine awp_norm [0] rfl rfl ?_; refine awp_seq ?_; refine awp_seq ?_; refine rgn fun pan K hp hK => ?_; refine hK _ ?_; clear hK hp K pan; refine awp_norm [0, 14] rfl rfl ?_
  refine awp_cond2 rfl (onB_intro (fun h1 => ?_) (fun h1 => ?_))
  · refine awp_seq ?_; refine rgn fun pan K hp hK => ?_; refine hK _ ?_; clear hK hp K pan; refine awp_norm [2, 3] rfl rfl ?_; refine awp_ret ?_
    simp only [h1] at hG
    obtain ⟨rfl, rfl⟩ := Prod.mk.inj (Option.some.inj hG)
    exact ⟨_, [], _, [encS _, .d (.s (.bool _))], rfl, rfl, rfl, rfl, rfl, PWs.refl _, rfl⟩
  refine awp_skip ?_; refine awp_seq ?_; refine rgn fun pan K hp hK => ?_; refine hK _ ?_; clear hK hp K pan; refine awp_norm [0, 4] rfl rfl ?_; refine awp_seq ?_; refine awp_seq ?_; refine rgn fun pan K hp hK => ?_; refine hK _ ?_; clear hK hp K pan; refine awp_norm [0, 4, 5] rfl rfl ?_; refine awp_block ?_
  simp only [h1] at hG
  refine awp_loop (fun k Y => ∃ (d1 e1 : List (List Ts)) (acc : ByteArray), k = e1.length ∧ c = d1 ++ e1 ∧ orG f e1 d1.length acc = some (s, b) ∧ acc.size ≤ 1073741824 ∧ Y = ⟨[(0, .d (.sl 1 (cnd c))), (4, .d (str acc)), (5, .d (num d1.length))], []⟩) (c.length) (⟨[], c, ⟨#[]⟩, rfl, rfl, hG, Nat.zero_le _, rfl⟩) ?_
  clear hG
  rintro k Y ⟨d1, e1, acc, rfl, hl1, hG, hz1_0, rfl⟩
  have hll1 : (cnd c).length = d1.length + e1.length := by rw [cnd, List.length_map, hl1, List.length_append]
  have hdl1 : d1.length + e1.length ≤ 1073741824 := by rw [hl1, List.length_append] at hn; exact hn
  refine awp_seq ?_; refine awp_seq ?_; refine rgn fun pan K hp hK => ?_; refine hK _ ?_; clear hK hp K pan; refine awp_norm [0, 4, 5, 18] rfl rfl ?_
  refine awp_cond2 rfl (onB_intro (fun h2 => ?_) (fun h2 => ?_))
  · have h2' := of_decide_eq_true h2
    rw [hll1] at h2'
    cases e1 with
    | nil => simp only [List.length_nil] at h2'; omega
    | cons x e1b =>
    subst hl1
    simp only [List.length_cons] at hdl1
    simp only [orG] at hG
    cases hcr : (chkL x.length && chkS (trueG x (sepG d1.length acc ⟨#[32, 111, 114, 32]⟩))) with
    | false => simp only [hcr] at hG; cases hG
    | true =>
    simp only [hcr] at hG
    simp only [Bool.and_eq_true] at hcr
    have hx : x.length ≤ 1073741824 := of_decide_eq_true hcr.1
    have hq := chkS_le hcr.2
    refine awp_skip ?_; refine awp_seq ?_; refine awp_block ?_
    refine awp_cut (fun Z => Z = ⟨[(0, .d (.sl 1 (cnd (d1 ++ x :: e1b)))), (4, .d (str (sepG d1.length acc ⟨#[32, 111, 114, 32]⟩))), (5, .d (num d1.length))], []⟩) ?_ ?_
    · refine awp_seq ?_; refine rgn fun pan K hp hK => ?_; refine hK _ ?_; clear hK hp K pan; refine awp_norm [0, 4, 5, 22] rfl rfl ?_
      refine awp_cond2 rfl (onB_intro (fun h3 => ?_) (fun h3 => ?_))
      · refine rgn fun pan K hp hK => ?_
        refine And.intro ((by first | omega | (have zl0 : (⟨#[32, 111, 114, 32]⟩ : ByteArray).size = 4 := rfl; have zl1 : (⟨#[116, 114, 117, 101]⟩ : ByteArray).size = 4 := rfl; have zl2 : (⟨#[32, 97, 110, 100, 32]⟩ : ByteArray).size = 5 := rfl; have zl3 : (⟨#[32]⟩ : ByteArray).size = 1 := rfl; (try simp only [ByteArray.size_append] at *); omega))) ?_
        refine hK _ ?_; clear hK hp K pan
        exact ⟨_, sub_norm (slots := [0, 4, 5]) rfl rfl, by first | (simp only [sepG, h3]; done) | (simp only [sepG, h3]; rfl)⟩
      refine awp_skip ?_
      exact ⟨_, sub_norm (slots := [0, 4, 5]) rfl rfl, by first | (simp only [sepG, h3]; done) | (simp only [sepG, h2, h3]; rfl)⟩
    rintro Z rfl
    have hs := sep_size (i := d1.length) (sep := ⟨#[32, 111, 114, 32]⟩) hz1_0
    have hs2 : (⟨#[32, 111, 114, 32]⟩ : ByteArray).size = 4 := rfl
    refine awp_cut (fun Z => Z = ⟨[(0, .d (.sl 1 (cnd (d1 ++ x :: e1b)))), (4, .d (str (trueG x (sepG d1.length acc ⟨#[32, 111, 114, 32]⟩)))), (5, .d (num d1.length))], []⟩) ?_ ?_
    · refine awp_seq ?_; refine rgn fun pan K hp hK => ?_
      refine And.intro (by omega) (Exists.intro _ (And.intro (cnd_at rfl) ?_))
      refine hK _ ?_; clear hK hp K pan; refine awp_norm [0, 4, 5, 30] rfl rfl ?_
      refine awp_cond2 rfl (onB_intro (fun h3 => ?_) (fun h3 => ?_))
      · refine rgn fun pan K hp hK => ?_
        refine And.intro ((by first | omega | (have zl0 : (⟨#[32, 111, 114, 32]⟩ : ByteArray).size = 4 := rfl; have zl1 : (⟨#[116, 114, 117, 101]⟩ : ByteArray).size = 4 := rfl; have zl2 : (⟨#[32, 97, 110, 100, 32]⟩ : ByteArray).size = 5 := rfl; have zl3 : (⟨#[32]⟩ : ByteArray).size = 1 := rfl; (try simp only [ByteArray.size_append] at *); omega))) ?_
        refine hK _ ?_; clear hK hp K pan
        exact ⟨_, sub_norm (slots := [0, 4, 5]) rfl rfl, by first | (simp only [trueG, h3]; done) | (simp only [trueG, h3]; rfl)⟩
      refine awp_skip ?_
      exact ⟨_, sub_norm (slots := [0, 4, 5]) rfl rfl, by first | (simp only [trueG, h3]; done) | (simp only [trueG, h2, h3]; rfl)⟩
    rintro Z rfl
    refine awp_seq ?_; refine rgn fun pan K hp hK => ?_; refine hK _ ?_; clear hK hp K pan; refine awp_norm [0, 4, 5, 6] rfl rfl ?_; refine awp_block ?_
    refine awp_loop (fun k Y => ∃ (d2 e2 : List Ts) (acc2 : ByteArray), k = e2.length ∧ x = d2 ++ e2 ∧ (match andG f e2 d2.length acc2 with
     | none => none
     | some none => some (⟨#[]⟩, false)
     | some (some acc3) => orG f e1b (d1.length + 1) acc3) = some (s, b) ∧ acc2.size ≤ 1073741824 ∧ Y = ⟨[(0, .d (.sl 1 (cnd (d1 ++ x :: e1b)))), (4, .d (str acc2)), (5, .d (num d1.length)), (6, .d (num d2.length))], []⟩) (x.length) (⟨[], x, _, rfl, rfl, hG, hq, rfl⟩) ?_
    clear hG
    rintro k Y ⟨d2, e2, acc2, rfl, hl2, hG, hz2_0, rfl⟩
    have hll2 : (tss x).length = d2.length + e2.length := by rw [tss, List.length_map, hl2, List.length_append]
    have hdl2 : d2.length + e2.length ≤ 1073741824 := by rw [hl2, List.length_append] at hx; exact hx
    refine awp_seq ?_; refine awp_seq ?_; refine rgn fun pan K hp hK => ?_
    refine And.intro (by omega) (Exists.intro _ (And.intro (cnd_at rfl) ?_))
    refine hK _ ?_; clear hK hp K pan; refine awp_norm [0, 4, 5, 6, 39] rfl rfl ?_
    refine awp_cond2 rfl (onB_intro (fun h3 => ?_) (fun h3 => ?_))
    · have h3' := of_decide_eq_true h3
      rw [hll2] at h3'
      cases e2 with
      | nil => simp only [List.length_nil] at h3'; omega
      | cons x e2b =>
      obtain ⟨⟨p1, n1, m1, l1⟩, rel, ⟨p2, n2, m2, l2⟩⟩ := x
      subst hl2
      simp only [List.length_cons] at hdl2
      simp only [andG] at hG
      refine awp_skip ?_; refine awp_seq ?_; refine awp_block ?_; refine awp_seq ?_; refine awp_seq ?_; refine rgn fun pan K hp hK => ?_; refine hK _ ?_; clear hK hp K pan; refine awp_norm [0, 4, 5, 6, 43] rfl rfl ?_
      refine awp_cond2 rfl (onB_intro (fun h4 => ?_) (fun h4 => ?_))
      · refine rgn fun pan K hp hK => ?_
        refine And.intro ((by first | omega | (have zl0 : (⟨#[32, 111, 114, 32]⟩ : ByteArray).size = 4 := rfl; have zl1 : (⟨#[116, 114, 117, 101]⟩ : ByteArray).size = 4 := rfl; have zl2 : (⟨#[32, 97, 110, 100, 32]⟩ : ByteArray).size = 5 := rfl; have zl3 : (⟨#[32]⟩ : ByteArray).size = 1 := rfl; (try simp only [ByteArray.size_append] at *); omega))) ?_
        refine hK _ ?_; clear hK hp K pan; refine awp_norm [0, 4, 5, 6] rfl rfl ?_; refine awp_seq ?_; refine rgn fun pan K hp hK => ?_
        refine And.intro (by omega) (Exists.intro _ (And.intro (cnd_at rfl) ?_))
        refine And.intro (by omega) (Exists.intro _ (And.intro (tss_at rfl) ?_))
        show aCall _ _ _ _ _ _ _
        cases hr1 : exprG f (.mk p1 n1 m1 l1) 1 1 with
        | none =>
          simp only [hr1] at hG
          cases hG
        | some v1 =>
          obtain ⟨a1, o1⟩ := v1
          have sz1 := exprG_size f _ _ _ _ _ hr1
          refine aCall_ret (L := []) rfl rfl rfl (exprG_spec G f (.mk p1 n1 m1 l1) 1 1 _ _ hr1) rfl rfl rfl rfl ?_
          refine hK _ ?_; clear hK hp K pan; refine awp_norm [0, 4, 5, 6, 7, 8] rfl rfl ?_; refine awp_seq ?_; refine rgn fun pan K hp hK => ?_
          refine And.intro (by omega) (Exists.intro _ (And.intro (cnd_at rfl) ?_))
          refine And.intro (by omega) (Exists.intro _ (And.intro (tss_at rfl) ?_))
          show aCall _ _ _ _ _ _ _
          cases hr2 : exprG f (.mk p2 n2 m2 l2) 1 1 with
          | none =>
            simp only [hr1, hr2] at hG
            cases hG
          | some v2 =>
            obtain ⟨a2, o2⟩ := v2
            have sz2 := exprG_size f _ _ _ _ _ hr2
            refine aCall_ret (L := []) rfl rfl rfl (exprG_spec G f (.mk p2 n2 m2 l2) 1 1 _ _ hr2) rfl rfl rfl rfl ?_
            refine hK _ ?_; clear hK hp K pan; refine awp_norm [0, 4, 5, 6, 7, 8, 9, 10] rfl rfl ?_; refine awp_seq ?_; refine rgn fun pan K hp hK => ?_
            refine And.intro (by omega) (Exists.intro _ (And.intro (cnd_at rfl) ?_))
            refine And.intro (by omega) (Exists.intro _ (And.intro (tss_at rfl) ?_))
            show aCall _ _ _ _ _ _ _
            refine aCall_ret (L := []) rfl rfl rfl (isRelG_spec G rel) rfl rfl rfl rfl ?_
            refine hK _ ?_; clear hK hp K pan; refine awp_norm [0, 4, 5, 6, 7, 8, 9, 10, 11] rfl rfl ?_; refine awp_seq ?_; refine awp_seq ?_; refine rgn fun pan K hp hK => ?_
            refine onB_intro (fun h5 => ?_) (fun h5 => ?_)
            · refine hK _ ?_; clear hK hp K pan; refine awp_norm [0, 4, 5, 6, 7, 9, 88] rfl rfl ?_; refine awp_cond rfl ?_; refine awp_seq ?_; refine rgn fun pan K hp hK => ?_; refine hK _ ?_; clear hK hp K pan; refine awp_norm [2, 3] rfl rfl ?_; refine awp_ret ?_
              simp only [Bool.true_or, hr1, hr2, h5] at hG
              obtain ⟨rfl, rfl⟩ := Prod.mk.inj (Option.some.inj hG)
              exact ⟨_, [], _, [encS _, .d (.s (.bool _))], rfl, rfl, rfl, rfl, rfl, PWs.refl _, rfl⟩
            refine onB_intro (fun h6 => ?_) (fun h6 => ?_)
            · refine hK _ ?_; clear hK hp K pan; refine awp_norm [0, 4, 5, 6, 7, 9, 88] rfl rfl ?_; refine awp_cond rfl ?_; refine awp_seq ?_; refine rgn fun pan K hp hK => ?_; refine hK _ ?_; clear hK hp K pan; refine awp_norm [2, 3] rfl rfl ?_; refine awp_ret ?_
              simp only [Bool.true_or, Bool.or_true, hr1, hr2, h5, h6] at hG
              obtain ⟨rfl, rfl⟩ := Prod.mk.inj (Option.some.inj hG)
              exact ⟨_, [], _, [encS _, .d (.s (.bool _))], rfl, rfl, rfl, rfl, rfl, PWs.refl _, rfl⟩
            refine hK _ ?_; clear hK hp K pan; refine awp_norm [0, 4, 5, 6, 7, 9, 88] rfl rfl ?_
            refine awp_cond2 rfl (onB_intro (fun h7 => ?_) (fun h7 => ?_))
            · refine awp_seq ?_; refine rgn fun pan K hp hK => ?_; refine hK _ ?_; clear hK hp K pan; refine awp_norm [2, 3] rfl rfl ?_; refine awp_ret ?_
              simp only [Bool.or_true, Bool.or_self, hr1, hr2, h5, h6, h7] at hG
              obtain ⟨rfl, rfl⟩ := Prod.mk.inj (Option.some.inj hG)
              exact ⟨_, [], _, [encS _, .d (.s (.bool _))], rfl, rfl, rfl, rfl, rfl, PWs.refl _, rfl⟩
            cases hc : chkS (((((sepG d2.length acc2 ⟨#[32, 97, 110, 100, 32]⟩) ++ a1) ++ ⟨#[32]⟩) ++ rel ++ ⟨#[32]⟩) ++ a2) with
            | false => simp only [hr1, hr2, h5, h6, h7, hc, Bool.or_self] at hG; cases hG
            | true =>
            have hq := chkS_le hc
            simp only [hr1, hr2, h5, h6, h7, hc, Bool.or_self] at hG
            simp only [sepG, h4] at hG hq
            refine awp_skip ?_; refine rgn fun pan K hp hK => ?_
            refine And.intro ((by first | omega | (have zl0 : (⟨#[32, 111, 114, 32]⟩ : ByteArray).size = 4 := rfl; have zl1 : (⟨#[116, 114, 117, 101]⟩ : ByteArray).size = 4 := rfl; have zl2 : (⟨#[32, 97, 110, 100, 32]⟩ : ByteArray).size = 5 := rfl; have zl3 : (⟨#[32]⟩ : ByteArray).size = 1 := rfl; (try simp only [ByteArray.size_append] at *); omega))) ?_
            refine And.intro ((by first | omega | (have zl0 : (⟨#[32, 111, 114, 32]⟩ : ByteArray).size = 4 := rfl; have zl1 : (⟨#[116, 114, 117, 101]⟩ : ByteArray).size = 4 := rfl; have zl2 : (⟨#[32, 97, 110, 100, 32]⟩ : ByteArray).size = 5 := rfl; have zl3 : (⟨#[32]⟩ : ByteArray).size = 1 := rfl; (try simp only [ByteArray.size_append] at *); omega))) ?_
            refine And.intro (by omega) (Exists.intro _ (And.intro (cnd_at rfl) ?_))
            refine And.intro (by omega) (Exists.intro _ (And.intro (tss_at rfl) ?_))
            refine And.intro ((by first | omega | (have zl0 : (⟨#[32, 111, 114, 32]⟩ : ByteArray).size = 4 := rfl; have zl1 : (⟨#[116, 114, 117, 101]⟩ : ByteArray).size = 4 := rfl; have zl2 : (⟨#[32, 97, 110, 100, 32]⟩ : ByteArray).size = 5 := rfl; have zl3 : (⟨#[32]⟩ : ByteArray).size = 1 := rfl; (try simp only [ByteArray.size_append] at *); omega))) ?_
            refine And.intro ((by first | omega | (have zl0 : (⟨#[32, 111, 114, 32]⟩ : ByteArray).size = 4 := rfl; have zl1 : (⟨#[116, 114, 117, 101]⟩ : ByteArray).size = 4 := rfl; have zl2 : (⟨#[32, 97, 110, 100, 32]⟩ : ByteArray).size = 5 := rfl; have zl3 : (⟨#[32]⟩ : ByteArray).size = 1 := rfl; (try simp only [ByteArray.size_append] at *); omega))) ?_
            refine And.intro ((by first | omega | (have zl0 : (⟨#[32, 111, 114, 32]⟩ : ByteArray).size = 4 := rfl; have zl1 : (⟨#[116, 114, 117, 101]⟩ : ByteArray).size = 4 := rfl; have zl2 : (⟨#[32, 97, 110, 100, 32]⟩ : ByteArray).size = 5 := rfl; have zl3 : (⟨#[32]⟩ : ByteArray).size = 1 := rfl; (try simp only [ByteArray.size_append] at *); omega))) ?_
            refine hK _ ?_; clear hK hp K pan; refine awp_norm [0, 4, 5, 6] rfl rfl ?_; refine rgn fun pan K hp hK => ?_; refine hK _ ?_; clear hK hp K pan
            exact ⟨_, Nat.lt_succ_self _, _, sub_norm (slots := [0, 4, 5, 6]) rfl rfl, d2 ++ [⟨.mk p1 n1 m1 l1, rel, .mk p2 n2 m2 l2⟩], e2b, _, rfl, by simp, (by rw [List.length_append]; exact hG), hq, by rw [List.length_append, wrapId (by omega) (by omega)]; rfl⟩
      refine awp_skip ?_; refine awp_seq ?_; refine rgn fun pan K hp hK => ?_
      refine And.intro (by omega) (Exists.intro _ (And.intro (cnd_at rfl) ?_))
      refine And.intro (by omega) (Exists.intro _ (And.intro (tss_at rfl) ?_))
      show aCall _ _ _ _ _ _ _
      cases hr1 : exprG f (.mk p1 n1 m1 l1) 1 1 with
      | none =>
        simp only [hr1] at hG
        cases hG
      | some v1 =>
        obtain ⟨a1, o1⟩ := v1
        have sz1 := exprG_size f _ _ _ _ _ hr1
        refine aCall_ret (L := []) rfl rfl rfl (exprG_spec G f (.mk p1 n1 m1 l1) 1 1 _ _ hr1) rfl rfl rfl rfl ?_
        refine hK _ ?_; clear hK hp K pan; refine awp_norm [0, 4, 5, 6, 7, 8] rfl rfl ?_; refine awp_seq ?_; refine rgn fun pan K hp hK => ?_
        refine And.intro (by omega) (Exists.intro _ (And.intro (cnd_at rfl) ?_))
        refine And.intro (by omega) (Exists.intro _ (And.intro (tss_at rfl) ?_))
        show aCall _ _ _ _ _ _ _
        cases hr2 : exprG f (.mk p2 n2 m2 l2) 1 1 with
        | none =>
          simp only [hr1, hr2] at hG
          cases hG
        | some v2 =>
          obtain ⟨a2, o2⟩ := v2
          have sz2 := exprG_size f _ _ _ _ _ hr2
          refine aCall_ret (L := []) rfl rfl rfl (exprG_spec G f (.mk p2 n2 m2 l2) 1 1 _ _ hr2) rfl rfl rfl rfl ?_
          refine hK _ ?_; clear hK hp K pan; refine awp_norm [0, 4, 5, 6, 7, 8, 9, 10] rfl rfl ?_; refine awp_seq ?_; refine rgn fun pan K hp hK => ?_
          refine And.intro (by omega) (Exists.intro _ (And.intro (cnd_at rfl) ?_))
          refine And.intro (by omega) (Exists.intro _ (And.intro (tss_at rfl) ?_))
          show aCall _ _ _ _ _ _ _
          refine aCall_ret (L := []) rfl rfl rfl (isRelG_spec G rel) rfl rfl rfl rfl ?_
          refine hK _ ?_; clear hK hp K pan; refine awp_norm [0, 4, 5, 6, 7, 8, 9, 10, 11] rfl rfl ?_; refine awp_seq ?_; refine awp_seq ?_; refine rgn fun pan K hp hK => ?_
          refine onB_intro (fun h5 => ?_) (fun h5 => ?_)
          · refine hK _ ?_; clear hK hp K pan; refine awp_norm [0, 4, 5, 6, 7, 9, 88] rfl rfl ?_; refine awp_cond rfl ?_; refine awp_seq ?_; refine rgn fun pan K hp hK => ?_; refine hK _ ?_; clear hK hp K pan; refine awp_norm [2, 3] rfl rfl ?_; refine awp_ret ?_
            simp only [Bool.true_or, hr1, hr2, h5] at hG
            obtain ⟨rfl, rfl⟩ := Prod.mk.inj (Option.some.inj hG)
            exact ⟨_, [], _, [encS _, .d (.s (.bool _))], rfl, rfl, rfl, rfl, rfl, PWs.refl _, rfl⟩
          refine onB_intro (fun h6 => ?_) (fun h6 => ?_)
          · refine hK _ ?_; clear hK hp K pan; refine awp_norm [0, 4, 5, 6, 7, 9, 88] rfl rfl ?_; refine awp_cond rfl ?_; refine awp_seq ?_; refine rgn fun pan K hp hK => ?_; refine hK _ ?_; clear hK hp K pan; refine awp_norm [2, 3] rfl rfl ?_; refine awp_ret ?_
            simp only [Bool.true_or, Bool.or_true, hr1, hr2, h5, h6] at hG
            obtain ⟨rfl, rfl⟩ := Prod.mk.inj (Option.some.inj hG)
            exact ⟨_, [], _, [encS _, .d (.s (.bool _))], rfl, rfl, rfl, rfl, rfl, PWs.refl _, rfl⟩
          refine hK _ ?_; clear hK hp K pan; refine awp_norm [0, 4, 5, 6, 7, 9, 88] rfl rfl ?_
          refine awp_cond2 rfl (onB_intro (fun h7 => ?_) (fun h7 => ?_))
          · refine awp_seq ?_; refine rgn fun pan K hp hK => ?_; refine hK _ ?_; clear hK hp K pan; refine awp_norm [2, 3] rfl rfl ?_; refine awp_ret ?_
            simp only [Bool.or_true, Bool.or_self, hr1, hr2, h5, h6, h7] at hG
            obtain ⟨rfl, rfl⟩ := Prod.mk.inj (Option.some.inj hG)
            exact ⟨_, [], _, [encS _, .d (.s (.bool _))], rfl, rfl, rfl, rfl, rfl, PWs.refl _, rfl⟩
          cases hc : chkS (((((sepG d2.length acc2 ⟨#[32, 97, 110, 100, 32]⟩) ++ a1) ++ ⟨#[32]⟩) ++ rel ++ ⟨#[32]⟩) ++ a2) with
          | false => simp only [hr1, hr2, h5, h6, h7, hc, Bool.or_self] at hG; cases hG
          | true =>
          have hq := chkS_le hc
          simp only [hr1, hr2, h5, h6, h7, hc, Bool.or_self] at hG
          simp only [sepG, h4] at hG hq
          refine awp_skip ?_; refine rgn fun pan K hp hK => ?_
          refine And.intro ((by first | omega | (have zl0 : (⟨#[32, 111, 114, 32]⟩ : ByteArray).size = 4 := rfl; have zl1 : (⟨#[116, 114, 117, 101]⟩ : ByteArray).size = 4 := rfl; have zl2 : (⟨#[32, 97, 110, 100, 32]⟩ : ByteArray).size = 5 := rfl; have zl3 : (⟨#[32]⟩ : ByteArray).size = 1 := rfl; (try simp only [ByteArray.size_append] at *); omega))) ?_
          refine And.intro ((by first | omega | (have zl0 : (⟨#[32, 111, 114, 32]⟩ : ByteArray).size = 4 := rfl; have zl1 : (⟨#[116, 114, 117, 101]⟩ : ByteArray).size = 4 := rfl; have zl2 : (⟨#[32, 97, 110, 100, 32]⟩ : ByteArray).size = 5 := rfl; have zl3 : (⟨#[32]⟩ : ByteArray).size = 1 := rfl; (try simp only [ByteArray.size_append] at *); omega))) ?_
          refine And.intro (by omega) (Exists.intro _ (And.intro (cnd_at rfl) ?_))
          refine And.intro (by omega) (Exists.intro _ (And.intro (tss_at rfl) ?_))
          refine And.intro ((by first | omega | (have zl0 : (⟨#[32, 111, 114, 32]⟩ : ByteArray).size = 4 := rfl; have zl1 : (⟨#[116, 114, 117, 101]⟩ : ByteArray).size = 4 := rfl; have zl2 : (⟨#[32, 97, 110, 100, 32]⟩ : ByteArray).size = 5 := rfl; have zl3 : (⟨#[32]⟩ : ByteArray).size = 1 := rfl; (try simp only [ByteArray.size_append] at *); omega))) ?_
          refine And.intro ((by first | omega | (have zl0 : (⟨#[32, 111, 114, 32]⟩ : ByteArray).size = 4 := rfl; have zl1 : (⟨#[116, 114, 117, 101]⟩ : ByteArray).size = 4 := rfl; have zl2 : (⟨#[32, 97, 110, 100, 32]⟩ : ByteArray).size = 5 := rfl; have zl3 : (⟨#[32]⟩ : ByteArray).size = 1 := rfl; (try simp only [ByteArray.size_append] at *); omega))) ?_
          refine And.intro ((by first | omega | (have zl0 : (⟨#[32, 111, 114, 32]⟩ : ByteArray).size = 4 := rfl; have zl1 : (⟨#[116, 114, 117, 101]⟩ : ByteArray).size = 4 := rfl; have zl2 : (⟨#[32, 97, 110, 100, 32]⟩ : ByteArray).size = 5 := rfl; have zl3 : (⟨#[32]⟩ : ByteArray).size = 1 := rfl; (try simp only [ByteArray.size_append] at *); omega))) ?_
          refine hK _ ?_; clear hK hp K pan; refine awp_norm [0, 4, 5, 6] rfl rfl ?_; refine rgn fun pan K hp hK => ?_; refine hK _ ?_; clear hK hp K pan
          exact ⟨_, Nat.lt_succ_self _, _, sub_norm (slots := [0, 4, 5, 6]) rfl rfl, d2 ++ [⟨.mk p1 n1 m1 l1, rel, .mk p2 n2 m2 l2⟩], e2b, _, rfl, by simp, (by rw [List.length_append]; exact hG), hq, by rw [List.length_append, wrapId (by omega) (by omega)]; rfl⟩
    have h3' := of_decide_eq_false h3
    rw [hll2] at h3'
    obtain rfl : e2 = [] := List.eq_nil_of_length_eq_zero (by omega)
    simp only [andG] at hG
    refine awp_exit ?_
    refine awp_norm [0, 4, 5] rfl rfl ?_; refine rgn fun pan K hp hK => ?_; refine hK _ ?_; clear hK hp K pan
    exact ⟨_, Nat.lt_succ_self _, _, sub_norm (slots := [0, 4, 5]) rfl rfl, d1 ++ [x], e1b, _, rfl, by simp, (by rw [List.length_append]; exact hG), hz2_0, by rw [List.length_append, wrapId (by omega) (by omega)]; rfl⟩
  have h2' := of_decide_eq_false h2
  rw [hll1] at h2'
  obtain rfl : e1 = [] := List.eq_nil_of_length_eq_zero (by omega)
  simp only [orG] at hG
  refine awp_exit ?_
  refine awp_norm [4] rfl rfl ?_; refine awp_seq ?_; refine rgn fun pan K hp hK => ?_; refine hK _ ?_; clear hK hp K pan; refine awp_norm [2, 3] rfl rfl ?_; refine awp_ret ?_
  obtain ⟨rfl, rfl⟩ := Prod.mk.inj (Option.some.inj hG)
  exact ⟨_, [], _, [encS _, .d (.s (.bool _))], rfl, rfl, rfl, rfl, rfl, PWs.refl _, rfl⟩
end Go.Abs
end
