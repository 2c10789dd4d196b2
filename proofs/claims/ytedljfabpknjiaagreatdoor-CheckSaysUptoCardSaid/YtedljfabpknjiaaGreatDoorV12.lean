/- Texts of this proof, joined: AbsRD, AbsRE, AbsRF. -/
import Derived.Test.YtedljfabpknjiaaGreatDoorV11
section
namespace Go.Abs
open Go Go.Proofs
attribute [local irreducible] aCall AWp Sub Spec
def sepG (i : Nat) (acc sep : ByteArray) : ByteArray := match decide ((i : Int) > 0) with
  | true => acc ++ sep
  | false => acc
def listG (f : Nat) : List Ex → Nat → ByteArray → GT
  | [], _, acc => some (acc, true)
  | e :: r, i, acc => match exprG f e 1 1 with
    | none => none
    | some (s, ok) => match (!ok) with
      | true => some (⟨#[]⟩, false)
      | false => match chkS (sepG i acc ⟨#[44, 32]⟩ ++ s) with
        | true => listG f r (i + 1) (sepG i acc ⟨#[44, 32]⟩ ++ s)
        | false => none
def andG (f : Nat) : List Ts → Nat → ByteArray → Option (Option ByteArray)
  | [], _, acc => some (some acc)
  | t :: r, i, acc => match exprG f t.a 1 1 with
    | none => none
    | some (a, ok) => match exprG f t.b 1 1 with
      | none => none
      | some (b, fine) => match (((!ok) || (!fine)) || (!isRelG t.rel)) with
        | true => some none
        | false => match chkS ((((sepG i acc ⟨#[32, 97, 110, 100, 32]⟩ ++ a) ++ ⟨#[32]⟩) ++ t.rel ++ ⟨#[32]⟩) ++ b) with
          | true => andG f r (i + 1) ((((sepG i acc ⟨#[32, 97, 110, 100, 32]⟩ ++ a) ++ ⟨#[32]⟩) ++ t.rel ++ ⟨#[32]⟩) ++ b)
          | false => none
def trueG (row : List Ts) (acc : ByteArray) : ByteArray := match (((tss row).length : Int) == 0) with
  | true => acc ++ ⟨#[116, 114, 117, 101]⟩
  | false => acc
def orG (f : Nat) : List (List Ts) → Nat → ByteArray → GT
  | [], _, acc => some (acc, true)
  | row :: r, i, acc => match chkL row.length && chkS (trueG row (sepG i acc ⟨#[32, 111, 114, 32]⟩)) with
    | false => none
    | true => match andG f row 0 (trueG row (sepG i acc ⟨#[32, 111, 114, 32]⟩)) with
      | none => none
      | some none => some (⟨#[]⟩, false)
      | some (some acc3) => orG f r (i + 1) acc3
def condG (f : Nat) (c : List (List Ts)) : GT := match chkL c.length with
  | false => none
  | true => match (((cnd c).length : Int) == 0) with
    | true => some (⟨#[102, 97, 108, 115, 101]⟩, true)
    | false => orG f c 0 ⟨#[]⟩
theorem sep_size {i : Nat} {acc sep : ByteArray} {m : Nat} (h : acc.size ≤ m) : (sepG i acc sep).size ≤ m + sep.size := by
  unfold sepG
  split
  · rw [ByteArray.size_append]; omega
  omega
theorem chkS_le {a : ByteArray} (h : chkS a = true) : a.size ≤ 1073741824 := of_decide_eq_true h
theorem listG_spec (G : Glob) (f : Nat) (l : List Ex) (hn : l.length ≤ 1073741824) (s : ByteArray) (b : Bool) (hG : listG f l 0 ⟨#[]⟩ = some (s, b)) : Spec Tryz.prog G 218 [.d (.sl 4 (exs l))] [] (.ret (.tup [.d (str s), .d (.s (.bool b))])) [] := by
  refine spec_of_awp2 TT_ok (N := 32) Tryz.func218 rfl (by rfl) (Nat.le_refl _) rfl ?_; refine rgs fun E K J O => ?_; refine O _ (aN [0] rfl rfl ?_); clear O J K E; refine rgs fun E K J O => ?_; refine O _ (aN [0, 4] rfl rfl ?_); clear O J K E; refine awp_seq ?_; refine rgs fun E K J O => ?_; refine O _ (aN [0, 4, 5] rfl rfl ?_); clear O J K E; refine awp_block ?_; refine awp_loop (fun k Y => ∃ (d1 e1 : List Ex) (acc : ByteArray), k = e1.length ∧ l = d1 ++ e1 ∧ listG f e1 d1.length acc = some (s, b) ∧ acc.size ≤ 1073741824 ∧ Y = ⟨[(0, .d (.sl 4 (exs l))), (4, .d (str acc)), (5, .d (num d1.length))], []⟩) (l.length) (⟨[], l, ⟨#[]⟩, rfl, rfl, hG, Nat.zero_le _, rfl⟩) ?_; clear hG; rintro k Y ⟨d1, e1, acc, rfl, hl1, hG, hz1_0, rfl⟩
  have hll1 : (exs l).length = d1.length + e1.length := by rw [ex_len, hl1, List.length_append]
  have hdl1 : d1.length + e1.length ≤ 1073741824 := by rw [hl1, List.length_append] at hn; exact hn
  refine awp_seq ?_; refine rgs fun E K J O => ?_; refine O _ (aN [0, 4, 5, 11] rfl rfl ?_); clear O J K E; refine awp_cond2 rfl (onB_intro (fun h1 => ?_) (fun h1 => ?_))
  · have h1' := of_decide_eq_true h1
    rw [hll1] at h1'
    cases e1 with
    | nil => simp only [List.length_nil] at h1'; omega
    | cons x e1b =>
    obtain ⟨p1, n1, m1, l1⟩ := x; subst hl1; simp only [List.length_cons] at hdl1; simp only [listG] at hG; refine awp_skip ?_; refine awp_seq ?_; refine awp_block ?_; refine awp_seq ?_; refine rgs fun E K J O => ?_; refine O _ (aN [0, 4, 5, 15] rfl rfl ?_); clear O J K E; refine awp_cond2 rfl (onB_intro (fun h2 => ?_) (fun h2 => ?_))
    · refine rgn fun E K J O => ?_
      refine And.intro ((by first | omega | (have zl0 : (⟨#[44, 32]⟩ : ByteArray).size = 2 := rfl; (try simp only [ByteArray.size_append] at *); omega))) ?_; refine O _ (aN [0, 4, 5] rfl rfl ?_); clear O J K E; refine rgs fun E K J O => ?_; refine And.intro ((by omega)) (Exists.intro _ (And.intro (exs_at rfl) ?_))
      show aCall _ _ _ _ _ _ _
      cases hr1 : exprG f (.mk p1 n1 m1 l1) 1 1 with
      | none =>
        simp only [hr1] at hG; cases hG
      | some v1 =>
        obtain ⟨a1, o1⟩ := v1; have sz1 := exprG_size f _ _ _ _ _ hr1; refine aR [] rfl rfl rfl (exprG_spec G f (.mk p1 n1 m1 l1) 1 1 _ _ hr1) rfl rfl rfl rfl ?_; refine O _ (aN [0, 4, 5, 6, 7] rfl rfl ?_); clear O J K E; refine awp_seq ?_; refine rgs fun E K J O => ?_; refine O _ (aN [0, 4, 5, 6, 27] rfl rfl ?_); clear O J K E; refine awp_cond2 rfl (onB_intro (fun h3 => ?_) (fun h3 => ?_))
        · refine rgs fun E K J O => ?_; refine O _ (aN [2, 3] rfl rfl ?_); clear O J K E; refine awp_ret ?_
          simp only [hr1, h3] at hG; obtain ⟨rfl, rfl⟩ := Prod.mk.inj (Option.some.inj hG); exact ⟨_, [], _, [encS _, .d (.s (.bool _))], rfl, rfl, rfl, rfl, rfl, PWs.refl _, rfl⟩
        cases hc : chkS (sepG d1.length acc ⟨#[44, 32]⟩ ++ a1) with
        | false => simp only [hr1, h3, hc] at hG; cases hG
        | true =>
        have hq := chkS_le hc; simp only [sepG, h2] at hq hc; simp only [sepG, h2, hr1, h3, hc] at hG; refine awp_skip ?_; refine rgn fun E K J O => ?_; refine And.intro ((by first | omega | (have zl0 : (⟨#[44, 32]⟩ : ByteArray).size = 2 := rfl; (try simp only [ByteArray.size_append] at *); omega))) ?_; refine O _ (aN [0, 4, 5] rfl rfl ?_); clear O J K E; refine rgn fun E K J O => ?_; refine O _ ?_; clear O J K E; exact ⟨_, Nat.lt_succ_self _, _, sub_norm (slots := [0, 4, 5]) rfl rfl, d1 ++ [.mk p1 n1 m1 l1], e1b, _, rfl, by simp, (by rw [List.length_append]; exact hG), hq, by rw [List.length_append, wrapId (by omega) (by omega)]; rfl⟩
    refine awp_skip ?_; refine rgs fun E K J O => ?_; refine And.intro ((by omega)) (Exists.intro _ (And.intro (exs_at rfl) ?_))
    show aCall _ _ _ _ _ _ _
    cases hr1 : exprG f (.mk p1 n1 m1 l1) 1 1 with
    | none =>
      simp only [hr1] at hG; cases hG
    | some v1 =>
      obtain ⟨a1, o1⟩ := v1; have sz1 := exprG_size f _ _ _ _ _ hr1; refine aR [] rfl rfl rfl (exprG_spec G f (.mk p1 n1 m1 l1) 1 1 _ _ hr1) rfl rfl rfl rfl ?_; refine O _ (aN [0, 4, 5, 6, 7] rfl rfl ?_); clear O J K E; refine awp_seq ?_; refine rgs fun E K J O => ?_; refine O _ (aN [0, 4, 5, 6, 27] rfl rfl ?_); clear O J K E; refine awp_cond2 rfl (onB_intro (fun h3 => ?_) (fun h3 => ?_))
      · refine rgs fun E K J O => ?_; refine O _ (aN [2, 3] rfl rfl ?_); clear O J K E; refine awp_ret ?_
        simp only [hr1, h3] at hG; obtain ⟨rfl, rfl⟩ := Prod.mk.inj (Option.some.inj hG); exact ⟨_, [], _, [encS _, .d (.s (.bool _))], rfl, rfl, rfl, rfl, rfl, PWs.refl _, rfl⟩
      cases hc : chkS (sepG d1.length acc ⟨#[44, 32]⟩ ++ a1) with
      | false => simp only [hr1, h3, hc] at hG; cases hG
      | true =>
      have hq := chkS_le hc; simp only [sepG, h2] at hq hc; simp only [sepG, h2, hr1, h3, hc] at hG; refine awp_skip ?_; refine rgn fun E K J O => ?_; refine And.intro ((by first | omega | (have zl0 : (⟨#[44, 32]⟩ : ByteArray).size = 2 := rfl; (try simp only [ByteArray.size_append] at *); omega))) ?_; refine O _ (aN [0, 4, 5] rfl rfl ?_); clear O J K E; refine rgn fun E K J O => ?_; refine O _ ?_; clear O J K E; exact ⟨_, Nat.lt_succ_self _, _, sub_norm (slots := [0, 4, 5]) rfl rfl, d1 ++ [.mk p1 n1 m1 l1], e1b, _, rfl, by simp, (by rw [List.length_append]; exact hG), hq, by rw [List.length_append, wrapId (by omega) (by omega)]; rfl⟩
  have h1' := of_decide_eq_false h1; rw [hll1] at h1'; obtain rfl : e1 = [] := List.eq_nil_of_length_eq_zero (by omega); simp only [listG] at hG; refine awp_exit ?_; refine awp_norm [4] rfl rfl ?_; refine rgs fun E K J O => ?_; refine O _ (aN [2, 3] rfl rfl ?_); clear O J K E; refine awp_ret ?_; obtain ⟨rfl, rfl⟩ := Prod.mk.inj (Option.some.inj hG); exact ⟨_, [], _, [encS _, .d (.s (.bool _))], rfl, rfl, rfl, rfl, rfl, PWs.refl _, rfl⟩
theorem indent_succ (k : Nat) : indent k ++ ⟨#[32, 32]⟩ = indent (k + 1) := by
  apply ByteArray.ext; rw [ByteArray.data_append]; apply Array.ext'; rw [Array.toList_append]
  show Lib.repeatL _ k ++ _ = Lib.repeatL _ (k + 1)
  rw [Lib.repeatL_add, Lib.repeatL_one]
theorem blanks_spec (G : Glob) (k : Nat) (hk : k ≤ 1000000) : Spec Tryz.prog G 216 [.d (num k)] [] (.ret (.d (str (indent k)))) [] := by
  refine spec_of_awp2 TT_ok (N := 13) Tryz.func216 rfl (by rfl) (Nat.le_refl _) rfl ?_; refine rgs fun E K J O => ?_; refine O _ (aN [0] rfl rfl ?_); clear O J K E; refine rgs fun E K J O => ?_; refine O _ (aN [0, 3] rfl rfl ?_); clear O J K E; refine awp_seq ?_; refine rgs fun E K J O => ?_; refine O _ (aN [0, 3, 4] rfl rfl ?_); clear O J K E; refine awp_block ?_; refine awp_loop (fun m Y => ∃ j : Nat, m = k - j ∧ j ≤ k ∧ Y = ⟨[(0, .d (num k)), (3, .d (str (indent j))), (4, .d (num j))], []⟩) (k) (⟨0, rfl, Nat.zero_le _, rfl⟩) ?_; rintro m Y ⟨j, rfl, hj, rfl⟩; refine awp_seq ?_; refine rgs fun E K J O => ?_; refine O _ (aN [0, 3, 4, 7] rfl rfl ?_); clear O J K E; refine awp_cond2 rfl (onB_intro (fun h1 => ?_) (fun h1 => ?_))
  · have h1' := of_decide_eq_true h1
    refine awp_skip ?_; refine awp_seq ?_; refine awp_block ?_; refine rgn fun E K J O => ?_; refine And.intro ((by rw [indent_size]; show _ + 2 ≤ _; omega)) ?_; refine O _ (aN [0, 3, 4] rfl rfl ?_); clear O J K E; refine rgn fun E K J O => ?_; refine O _ ?_; clear O J K E; exact ⟨k - (j + 1), by omega, _, sub_norm (slots := [0, 3, 4]) rfl rfl, j + 1, rfl, by omega, by rw [indent_succ, wrapId (by omega) (by omega)]; rfl⟩
  have h1' := of_decide_eq_false h1
  obtain rfl : j = k := by omega
  refine awp_exit ?_; refine awp_norm [3] rfl rfl ?_; refine rgs fun E K J O => ?_; refine O _ (aN [2] rfl rfl ?_); clear O J K E; refine awp_ret ?_; exact ⟨_, [], _, [encS _], rfl, rfl, rfl, rfl, rfl, PWs.refl _, rfl⟩
theorem condG_spec (G : Glob) (f : Nat) (c : List (List Ts)) (s : ByteArray) (b : Bool) (hG : condG f c = some (s, b)) : Spec Tryz.prog G 217 [.d (.sl 1 (cnd c))] [] (.ret (.tup [.d (str s), .d (.s (.bool b))])) [] := by
  unfold condG at hG
  cases hcl : chkL c.length with
  | false => rw [hcl] at hG; cases hG
  | true =>
  rw [hcl] at hG; have hn : c.length ≤ 1073741824 := of_decide_eq_true hcl; simp only at hG; refine spec_of_awp2 TT_ok (N := 106) Tryz.func217 rfl (by rfl) (Nat.le_refl _) rfl ?_; refine rgs fun E K J O => ?_; refine O _ (aN [0] rfl rfl ?_); clear O J K E; refine awp_seq ?_; refine rgs fun E K J O => ?_; refine O _ (aN [0, 14] rfl rfl ?_); clear O J K E; refine awp_cond2 rfl (onB_intro (fun h1 => ?_) (fun h1 => ?_))
  · refine rgs fun E K J O => ?_; refine O _ (aN [2, 3] rfl rfl ?_); clear O J K E; refine awp_ret ?_
    simp only [h1] at hG; obtain ⟨rfl, rfl⟩ := Prod.mk.inj (Option.some.inj hG); exact ⟨_, [], _, [encS _, .d (.s (.bool _))], rfl, rfl, rfl, rfl, rfl, PWs.refl _, rfl⟩
  refine awp_skip ?_; refine rgs fun E K J O => ?_; refine O _ (aN [0, 4] rfl rfl ?_); clear O J K E; refine awp_seq ?_; refine rgs fun E K J O => ?_; refine O _ (aN [0, 4, 5] rfl rfl ?_); clear O J K E; refine awp_block ?_; simp only [h1] at hG; refine awp_loop (fun k Y => ∃ (d1 e1 : List (List Ts)) (acc : ByteArray), k = e1.length ∧ c = d1 ++ e1 ∧ orG f e1 d1.length acc = some (s, b) ∧ acc.size ≤ 1073741824 ∧ Y = ⟨[(0, .d (.sl 1 (cnd c))), (4, .d (str acc)), (5, .d (num d1.length))], []⟩) (c.length) (⟨[], c, ⟨#[]⟩, rfl, rfl, hG, Nat.zero_le _, rfl⟩) ?_; clear hG; rintro k Y ⟨d1, e1, acc, rfl, hl1, hG, hz1_0, rfl⟩
  have hll1 : (cnd c).length = d1.length + e1.length := by rw [cnd, List.length_map, hl1, List.length_append]
  have hdl1 : d1.length + e1.length ≤ 1073741824 := by rw [hl1, List.length_append] at hn; exact hn
  refine awp_seq ?_; refine rgs fun E K J O => ?_; refine O _ (aN [0, 4, 5, 18] rfl rfl ?_); clear O J K E; refine awp_cond2 rfl (onB_intro (fun h2 => ?_) (fun h2 => ?_))
  · have h2' := of_decide_eq_true h2
    rw [hll1] at h2'
    cases e1 with
    | nil => simp only [List.length_nil] at h2'; omega
    | cons x e1b =>
    subst hl1; simp only [List.length_cons] at hdl1; simp only [orG] at hG
    cases hcr : (chkL x.length && chkS (trueG x (sepG d1.length acc ⟨#[32, 111, 114, 32]⟩))) with
    | false => simp only [hcr] at hG; cases hG
    | true =>
    simp only [hcr] at hG; simp only [Bool.and_eq_true] at hcr; have hx : x.length ≤ 1073741824 := of_decide_eq_true hcr.1; have hq := chkS_le hcr.2; refine awp_skip ?_; refine awp_seq ?_; refine awp_block ?_; refine awp_cut (fun Z => Z = ⟨[(0, .d (.sl 1 (cnd (d1 ++ x :: e1b)))), (4, .d (str (sepG d1.length acc ⟨#[32, 111, 114, 32]⟩))), (5, .d (num d1.length))], []⟩) ?_ ?_
    · refine rgs fun E K J O => ?_; refine O _ (aN [0, 4, 5, 22] rfl rfl ?_); clear O J K E
      refine awp_cond2 rfl (onB_intro (fun h3 => ?_) (fun h3 => ?_))
      · refine rgn fun E K J O => ?_
        refine And.intro ((by first | omega | (have zl0 : (⟨#[32, 111, 114, 32]⟩ : ByteArray).size = 4 := rfl; have zl1 : (⟨#[116, 114, 117, 101]⟩ : ByteArray).size = 4 := rfl; have zl2 : (⟨#[32, 97, 110, 100, 32]⟩ : ByteArray).size = 5 := rfl; have zl3 : (⟨#[32]⟩ : ByteArray).size = 1 := rfl; (try simp only [ByteArray.size_append] at *); omega))) ?_; refine O _ ?_; clear O J K E; exact ⟨_, sub_norm (slots := [0, 4, 5]) rfl rfl, by first | (simp only [sepG, h3]; done) | (simp only [sepG, h3]; rfl)⟩
      refine awp_skip ?_; exact ⟨_, sub_norm (slots := [0, 4, 5]) rfl rfl, by first | (simp only [sepG, h3]; done) | (simp only [sepG, h2, h3]; rfl)⟩
    rintro Z rfl; have hs := sep_size (i := d1.length) (sep := ⟨#[32, 111, 114, 32]⟩) hz1_0; have hs2 : (⟨#[32, 111, 114, 32]⟩ : ByteArray).size = 4 := rfl; refine awp_cut (fun Z => Z = ⟨[(0, .d (.sl 1 (cnd (d1 ++ x :: e1b)))), (4, .d (str (trueG x (sepG d1.length acc ⟨#[32, 111, 114, 32]⟩)))), (5, .d (num d1.length))], []⟩) ?_ ?_
    · refine rgs fun E K J O => ?_
      refine And.intro (by omega) (Exists.intro _ (And.intro (cnd_at rfl) ?_)); refine O _ (aN [0, 4, 5, 30] rfl rfl ?_); clear O J K E; refine awp_cond2 rfl (onB_intro (fun h3 => ?_) (fun h3 => ?_))
      · refine rgn fun E K J O => ?_
        refine And.intro ((by first | omega | (have zl0 : (⟨#[32, 111, 114, 32]⟩ : ByteArray).size = 4 := rfl; have zl1 : (⟨#[116, 114, 117, 101]⟩ : ByteArray).size = 4 := rfl; have zl2 : (⟨#[32, 97, 110, 100, 32]⟩ : ByteArray).size = 5 := rfl; have zl3 : (⟨#[32]⟩ : ByteArray).size = 1 := rfl; (try simp only [ByteArray.size_append] at *); omega))) ?_; refine O _ ?_; clear O J K E; exact ⟨_, sub_norm (slots := [0, 4, 5]) rfl rfl, by first | (simp only [trueG, h3]; done) | (simp only [trueG, h3]; rfl)⟩
      refine awp_skip ?_; exact ⟨_, sub_norm (slots := [0, 4, 5]) rfl rfl, by first | (simp only [trueG, h3]; done) | (simp only [trueG, h2, h3]; rfl)⟩
    rintro Z rfl; refine rgs fun E K J O => ?_; refine O _ (aN [0, 4, 5, 6] rfl rfl ?_); clear O J K E; refine awp_block ?_
    refine awp_loop (fun k Y => ∃ (d2 e2 : List Ts) (acc2 : ByteArray), k = e2.length ∧ x = d2 ++ e2 ∧ (match andG f e2 d2.length acc2 with
     | none => none
     | some none => some (⟨#[]⟩, false)
     | some (some acc3) => orG f e1b (d1.length + 1) acc3) = some (s, b) ∧ acc2.size ≤ 1073741824 ∧ Y = ⟨[(0, .d (.sl 1 (cnd (d1 ++ x :: e1b)))), (4, .d (str acc2)), (5, .d (num d1.length)), (6, .d (num d2.length))], []⟩) (x.length) (⟨[], x, _, rfl, rfl, hG, hq, rfl⟩) ?_
    clear hG; rintro k Y ⟨d2, e2, acc2, rfl, hl2, hG, hz2_0, rfl⟩
    have hll2 : (tss x).length = d2.length + e2.length := by rw [tss, List.length_map, hl2, List.length_append]
    have hdl2 : d2.length + e2.length ≤ 1073741824 := by rw [hl2, List.length_append] at hx; exact hx
    refine awp_seq ?_; refine rgs fun E K J O => ?_; refine And.intro (by omega) (Exists.intro _ (And.intro (cnd_at rfl) ?_)); refine O _ (aN [0, 4, 5, 6, 39] rfl rfl ?_); clear O J K E; refine awp_cond2 rfl (onB_intro (fun h3 => ?_) (fun h3 => ?_))
    · have h3' := of_decide_eq_true h3
      rw [hll2] at h3'
      cases e2 with
      | nil => simp only [List.length_nil] at h3'; omega
      | cons x e2b =>
      obtain ⟨⟨p1, n1, m1, l1⟩, rel, ⟨p2, n2, m2, l2⟩⟩ := x; subst hl2; simp only [List.length_cons] at hdl2; simp only [andG] at hG; refine awp_skip ?_; refine awp_seq ?_; refine awp_block ?_; refine awp_seq ?_; refine rgs fun E K J O => ?_; refine O _ (aN [0, 4, 5, 6, 43] rfl rfl ?_); clear O J K E; refine awp_cond2 rfl (onB_intro (fun h4 => ?_) (fun h4 => ?_))
      · refine rgn fun E K J O => ?_
        refine And.intro ((by first | omega | (have zl0 : (⟨#[32, 111, 114, 32]⟩ : ByteArray).size = 4 := rfl; have zl1 : (⟨#[116, 114, 117, 101]⟩ : ByteArray).size = 4 := rfl; have zl2 : (⟨#[32, 97, 110, 100, 32]⟩ : ByteArray).size = 5 := rfl; have zl3 : (⟨#[32]⟩ : ByteArray).size = 1 := rfl; (try simp only [ByteArray.size_append] at *); omega))) ?_; refine O _ (aN [0, 4, 5, 6] rfl rfl ?_); clear O J K E; refine rgs fun E K J O => ?_; refine And.intro (by omega) (Exists.intro _ (And.intro (cnd_at rfl) ?_)); refine And.intro (by omega) (Exists.intro _ (And.intro (tss_at rfl) ?_))
        show aCall _ _ _ _ _ _ _
        cases hr1 : exprG f (.mk p1 n1 m1 l1) 1 1 with
        | none =>
          simp only [hr1] at hG; cases hG
        | some v1 =>
          obtain ⟨a1, o1⟩ := v1; have sz1 := exprG_size f _ _ _ _ _ hr1; refine aR [] rfl rfl rfl (exprG_spec G f (.mk p1 n1 m1 l1) 1 1 _ _ hr1) rfl rfl rfl rfl ?_; refine O _ (aN [0, 4, 5, 6, 7, 8] rfl rfl ?_); clear O J K E; refine rgs fun E K J O => ?_; refine And.intro (by omega) (Exists.intro _ (And.intro (cnd_at rfl) ?_)); refine And.intro (by omega) (Exists.intro _ (And.intro (tss_at rfl) ?_))
          show aCall _ _ _ _ _ _ _
          cases hr2 : exprG f (.mk p2 n2 m2 l2) 1 1 with
          | none =>
            simp only [hr1, hr2] at hG; cases hG
          | some v2 =>
            obtain ⟨a2, o2⟩ := v2; have sz2 := exprG_size f _ _ _ _ _ hr2; refine aR [] rfl rfl rfl (exprG_spec G f (.mk p2 n2 m2 l2) 1 1 _ _ hr2) rfl rfl rfl rfl ?_; refine O _ (aN [0, 4, 5, 6, 7, 8, 9, 10] rfl rfl ?_); clear O J K E; refine rgs fun E K J O => ?_; refine And.intro (by omega) (Exists.intro _ (And.intro (cnd_at rfl) ?_)); refine And.intro (by omega) (Exists.intro _ (And.intro (tss_at rfl) ?_))
            show aCall _ _ _ _ _ _ _
            refine aR [] rfl rfl rfl (isRelG_spec G rel) rfl rfl rfl rfl ?_; refine O _ (aN [0, 4, 5, 6, 7, 8, 9, 10, 11] rfl rfl ?_); clear O J K E; refine awp_seq ?_; refine rgs fun E K J O => ?_; refine onB_intro (fun h5 => ?_) (fun h5 => ?_)
            · refine O _ (aN [0, 4, 5, 6, 7, 9, 88] rfl rfl ?_); clear O J K E; refine awp_cond rfl ?_; refine rgs fun E K J O => ?_; refine O _ (aN [2, 3] rfl rfl ?_); clear O J K E; refine awp_ret ?_
              simp only [bz, hr1, hr2, h5] at hG; obtain ⟨rfl, rfl⟩ := Prod.mk.inj (Option.some.inj hG); exact ⟨_, [], _, [encS _, .d (.s (.bool _))], rfl, rfl, rfl, rfl, rfl, PWs.refl _, rfl⟩
            refine onB_intro (fun h6 => ?_) (fun h6 => ?_)
            · refine O _ (aN [0, 4, 5, 6, 7, 9, 88] rfl rfl ?_); clear O J K E; refine awp_cond rfl ?_; refine rgs fun E K J O => ?_; refine O _ (aN [2, 3] rfl rfl ?_); clear O J K E; refine awp_ret ?_
              simp only [bz, hr1, hr2, h5, h6] at hG; obtain ⟨rfl, rfl⟩ := Prod.mk.inj (Option.some.inj hG); exact ⟨_, [], _, [encS _, .d (.s (.bool _))], rfl, rfl, rfl, rfl, rfl, PWs.refl _, rfl⟩
            refine O _ (aN [0, 4, 5, 6, 7, 9, 88] rfl rfl ?_); clear O J K E; refine awp_cond2 rfl (onB_intro (fun h7 => ?_) (fun h7 => ?_))
            · refine rgs fun E K J O => ?_; refine O _ (aN [2, 3] rfl rfl ?_); clear O J K E; refine awp_ret ?_
              simp only [bz, hr1, hr2, h5, h6, h7] at hG; obtain ⟨rfl, rfl⟩ := Prod.mk.inj (Option.some.inj hG); exact ⟨_, [], _, [encS _, .d (.s (.bool _))], rfl, rfl, rfl, rfl, rfl, PWs.refl _, rfl⟩
            cases hc : chkS (((((sepG d2.length acc2 ⟨#[32, 97, 110, 100, 32]⟩) ++ a1) ++ ⟨#[32]⟩) ++ rel ++ ⟨#[32]⟩) ++ a2) with
            | false => simp only [hr1, hr2, h5, h6, h7, hc, bz] at hG; cases hG
            | true =>
            have hq := chkS_le hc; simp only [hr1, hr2, h5, h6, h7, hc, bz] at hG; simp only [sepG, h4] at hG hq; refine awp_skip ?_; refine rgn fun E K J O => ?_; refine And.intro ((by first | omega | (have zl0 : (⟨#[32, 111, 114, 32]⟩ : ByteArray).size = 4 := rfl; have zl1 : (⟨#[116, 114, 117, 101]⟩ : ByteArray).size = 4 := rfl; have zl2 : (⟨#[32, 97, 110, 100, 32]⟩ : ByteArray).size = 5 := rfl; have zl3 : (⟨#[32]⟩ : ByteArray).size = 1 := rfl; (try simp only [ByteArray.size_append] at *); omega))) ?_; refine And.intro ((by first | omega | (have zl0 : (⟨#[32, 111, 114, 32]⟩ : ByteArray).size = 4 := rfl; have zl1 : (⟨#[116, 114, 117, 101]⟩ : ByteArray).size = 4 := rfl; have zl2 : (⟨#[32, 97, 110, 100, 32]⟩ : ByteArray).size = 5 := rfl; have zl3 : (⟨#[32]⟩ : ByteArray).size = 1 := rfl; (try simp only [ByteArray.size_append] at *); omega))) ?_; refine And.intro (by omega) (Exists.intro _ (And.intro (cnd_at rfl) ?_)); refine And.intro (by omega) (Exists.intro _ (And.intro (tss_at rfl) ?_)); refine And.intro ((by first | omega | (have zl0 : (⟨#[32, 111, 114, 32]⟩ : ByteArray).size = 4 := rfl; have zl1 : (⟨#[116, 114, 117, 101]⟩ : ByteArray).size = 4 := rfl; have zl2 : (⟨#[32, 97, 110, 100, 32]⟩ : ByteArray).size = 5 := rfl; have zl3 : (⟨#[32]⟩ : ByteArray).size = 1 := rfl; (try simp only [ByteArray.size_append] at *); omega))) ?_; refine And.intro ((by first | omega | (have zl0 : (⟨#[32, 111, 114, 32]⟩ : ByteArray).size = 4 := rfl; have zl1 : (⟨#[116, 114, 117, 101]⟩ : ByteArray).size = 4 := rfl; have zl2 : (⟨#[32, 97, 110, 100, 32]⟩ : ByteArray).size = 5 := rfl; have zl3 : (⟨#[32]⟩ : ByteArray).size = 1 := rfl; (try simp only [ByteArray.size_append] at *); omega))) ?_; refine And.intro ((by first | omega | (have zl0 : (⟨#[32, 111, 114, 32]⟩ : ByteArray).size = 4 := rfl; have zl1 : (⟨#[116, 114, 117, 101]⟩ : ByteArray).size = 4 := rfl; have zl2 : (⟨#[32, 97, 110, 100, 32]⟩ : ByteArray).size = 5 := rfl; have zl3 : (⟨#[32]⟩ : ByteArray).size = 1 := rfl; (try simp only [ByteArray.size_append] at *); omega))) ?_; refine O _ (aN [0, 4, 5, 6] rfl rfl ?_); clear O J K E; refine rgn fun E K J O => ?_; refine O _ ?_; clear O J K E; exact ⟨_, Nat.lt_succ_self _, _, sub_norm (slots := [0, 4, 5, 6]) rfl rfl, d2 ++ [⟨.mk p1 n1 m1 l1, rel, .mk p2 n2 m2 l2⟩], e2b, _, rfl, by simp, (by rw [List.length_append]; exact hG), hq, by rw [List.length_append, wrapId (by omega) (by omega)]; rfl⟩
      refine awp_skip ?_; refine rgs fun E K J O => ?_; refine And.intro (by omega) (Exists.intro _ (And.intro (cnd_at rfl) ?_)); refine And.intro (by omega) (Exists.intro _ (And.intro (tss_at rfl) ?_))
      show aCall _ _ _ _ _ _ _
      cases hr1 : exprG f (.mk p1 n1 m1 l1) 1 1 with
      | none =>
        simp only [hr1] at hG; cases hG
      | some v1 =>
        obtain ⟨a1, o1⟩ := v1; have sz1 := exprG_size f _ _ _ _ _ hr1; refine aR [] rfl rfl rfl (exprG_spec G f (.mk p1 n1 m1 l1) 1 1 _ _ hr1) rfl rfl rfl rfl ?_; refine O _ (aN [0, 4, 5, 6, 7, 8] rfl rfl ?_); clear O J K E; refine rgs fun E K J O => ?_; refine And.intro (by omega) (Exists.intro _ (And.intro (cnd_at rfl) ?_)); refine And.intro (by omega) (Exists.intro _ (And.intro (tss_at rfl) ?_))
        show aCall _ _ _ _ _ _ _
        cases hr2 : exprG f (.mk p2 n2 m2 l2) 1 1 with
        | none =>
          simp only [hr1, hr2] at hG; cases hG
        | some v2 =>
          obtain ⟨a2, o2⟩ := v2; have sz2 := exprG_size f _ _ _ _ _ hr2; refine aR [] rfl rfl rfl (exprG_spec G f (.mk p2 n2 m2 l2) 1 1 _ _ hr2) rfl rfl rfl rfl ?_; refine O _ (aN [0, 4, 5, 6, 7, 8, 9, 10] rfl rfl ?_); clear O J K E; refine rgs fun E K J O => ?_; refine And.intro (by omega) (Exists.intro _ (And.intro (cnd_at rfl) ?_)); refine And.intro (by omega) (Exists.intro _ (And.intro (tss_at rfl) ?_))
          show aCall _ _ _ _ _ _ _
          refine aR [] rfl rfl rfl (isRelG_spec G rel) rfl rfl rfl rfl ?_; refine O _ (aN [0, 4, 5, 6, 7, 8, 9, 10, 11] rfl rfl ?_); clear O J K E; refine awp_seq ?_; refine rgs fun E K J O => ?_; refine onB_intro (fun h5 => ?_) (fun h5 => ?_)
          · refine O _ (aN [0, 4, 5, 6, 7, 9, 88] rfl rfl ?_); clear O J K E; refine awp_cond rfl ?_; refine rgs fun E K J O => ?_; refine O _ (aN [2, 3] rfl rfl ?_); clear O J K E; refine awp_ret ?_
            simp only [bz, hr1, hr2, h5] at hG; obtain ⟨rfl, rfl⟩ := Prod.mk.inj (Option.some.inj hG); exact ⟨_, [], _, [encS _, .d (.s (.bool _))], rfl, rfl, rfl, rfl, rfl, PWs.refl _, rfl⟩
          refine onB_intro (fun h6 => ?_) (fun h6 => ?_)
          · refine O _ (aN [0, 4, 5, 6, 7, 9, 88] rfl rfl ?_); clear O J K E; refine awp_cond rfl ?_; refine rgs fun E K J O => ?_; refine O _ (aN [2, 3] rfl rfl ?_); clear O J K E; refine awp_ret ?_
            simp only [bz, hr1, hr2, h5, h6] at hG; obtain ⟨rfl, rfl⟩ := Prod.mk.inj (Option.some.inj hG); exact ⟨_, [], _, [encS _, .d (.s (.bool _))], rfl, rfl, rfl, rfl, rfl, PWs.refl _, rfl⟩
          refine O _ (aN [0, 4, 5, 6, 7, 9, 88] rfl rfl ?_); clear O J K E; refine awp_cond2 rfl (onB_intro (fun h7 => ?_) (fun h7 => ?_))
          · refine rgs fun E K J O => ?_; refine O _ (aN [2, 3] rfl rfl ?_); clear O J K E; refine awp_ret ?_
            simp only [bz, hr1, hr2, h5, h6, h7] at hG; obtain ⟨rfl, rfl⟩ := Prod.mk.inj (Option.some.inj hG); exact ⟨_, [], _, [encS _, .d (.s (.bool _))], rfl, rfl, rfl, rfl, rfl, PWs.refl _, rfl⟩
          cases hc : chkS (((((sepG d2.length acc2 ⟨#[32, 97, 110, 100, 32]⟩) ++ a1) ++ ⟨#[32]⟩) ++ rel ++ ⟨#[32]⟩) ++ a2) with
          | false => simp only [hr1, hr2, h5, h6, h7, hc, bz] at hG; cases hG
          | true =>
          have hq := chkS_le hc; simp only [hr1, hr2, h5, h6, h7, hc, bz] at hG; simp only [sepG, h4] at hG hq; refine awp_skip ?_; refine rgn fun E K J O => ?_; refine And.intro ((by first | omega | (have zl0 : (⟨#[32, 111, 114, 32]⟩ : ByteArray).size = 4 := rfl; have zl1 : (⟨#[116, 114, 117, 101]⟩ : ByteArray).size = 4 := rfl; have zl2 : (⟨#[32, 97, 110, 100, 32]⟩ : ByteArray).size = 5 := rfl; have zl3 : (⟨#[32]⟩ : ByteArray).size = 1 := rfl; (try simp only [ByteArray.size_append] at *); omega))) ?_; refine And.intro ((by first | omega | (have zl0 : (⟨#[32, 111, 114, 32]⟩ : ByteArray).size = 4 := rfl; have zl1 : (⟨#[116, 114, 117, 101]⟩ : ByteArray).size = 4 := rfl; have zl2 : (⟨#[32, 97, 110, 100, 32]⟩ : ByteArray).size = 5 := rfl; have zl3 : (⟨#[32]⟩ : ByteArray).size = 1 := rfl; (try simp only [ByteArray.size_append] at *); omega))) ?_; refine And.intro (by omega) (Exists.intro _ (And.intro (cnd_at rfl) ?_)); refine And.intro (by omega) (Exists.intro _ (And.intro (tss_at rfl) ?_)); refine And.intro ((by first | omega | (have zl0 : (⟨#[32, 111, 114, 32]⟩ : ByteArray).size = 4 := rfl; have zl1 : (⟨#[116, 114, 117, 101]⟩ : ByteArray).size = 4 := rfl; have zl2 : (⟨#[32, 97, 110, 100, 32]⟩ : ByteArray).size = 5 := rfl; have zl3 : (⟨#[32]⟩ : ByteArray).size = 1 := rfl; (try simp only [ByteArray.size_append] at *); omega))) ?_; refine And.intro ((by first | omega | (have zl0 : (⟨#[32, 111, 114, 32]⟩ : ByteArray).size = 4 := rfl; have zl1 : (⟨#[116, 114, 117, 101]⟩ : ByteArray).size = 4 := rfl; have zl2 : (⟨#[32, 97, 110, 100, 32]⟩ : ByteArray).size = 5 := rfl; have zl3 : (⟨#[32]⟩ : ByteArray).size = 1 := rfl; (try simp only [ByteArray.size_append] at *); omega))) ?_; refine And.intro ((by first | omega | (have zl0 : (⟨#[32, 111, 114, 32]⟩ : ByteArray).size = 4 := rfl; have zl1 : (⟨#[116, 114, 117, 101]⟩ : ByteArray).size = 4 := rfl; have zl2 : (⟨#[32, 97, 110, 100, 32]⟩ : ByteArray).size = 5 := rfl; have zl3 : (⟨#[32]⟩ : ByteArray).size = 1 := rfl; (try simp only [ByteArray.size_append] at *); omega))) ?_; refine O _ (aN [0, 4, 5, 6] rfl rfl ?_); clear O J K E; refine rgn fun E K J O => ?_; refine O _ ?_; clear O J K E; exact ⟨_, Nat.lt_succ_self _, _, sub_norm (slots := [0, 4, 5, 6]) rfl rfl, d2 ++ [⟨.mk p1 n1 m1 l1, rel, .mk p2 n2 m2 l2⟩], e2b, _, rfl, by simp, (by rw [List.length_append]; exact hG), hq, by rw [List.length_append, wrapId (by omega) (by omega)]; rfl⟩
    have h3' := of_decide_eq_false h3; rw [hll2] at h3'; obtain rfl : e2 = [] := List.eq_nil_of_length_eq_zero (by omega); simp only [andG] at hG; refine awp_exit ?_; refine awp_norm [0, 4, 5] rfl rfl ?_; refine rgn fun E K J O => ?_; refine O _ ?_; clear O J K E; exact ⟨_, Nat.lt_succ_self _, _, sub_norm (slots := [0, 4, 5]) rfl rfl, d1 ++ [x], e1b, _, rfl, by simp, (by rw [List.length_append]; exact hG), hz2_0, by rw [List.length_append, wrapId (by omega) (by omega)]; rfl⟩
  have h2' := of_decide_eq_false h2; rw [hll1] at h2'; obtain rfl : e1 = [] := List.eq_nil_of_length_eq_zero (by omega); simp only [orG] at hG; refine awp_exit ?_; refine awp_norm [4] rfl rfl ?_; refine rgs fun E K J O => ?_; refine O _ (aN [2, 3] rfl rfl ?_); clear O J K E; refine awp_ret ?_; obtain ⟨rfl, rfl⟩ := Prod.mk.inj (Option.some.inj hG); exact ⟨_, [], _, [encS _, .d (.s (.bool _))], rfl, rfl, rfl, rfl, rfl, PWs.refl _, rfl⟩
end Go.Abs
end
section
namespace Go.Abs
open Go Go.Proofs
attribute [local irreducible] aCall AWp Sub Spec
def namedS (kind : ByteArray) : Bool := (((kind.toList == (⟨#[115, 101, 116]⟩ : ByteArray).toList) || (kind.toList == (⟨#[112, 117, 116]⟩ : ByteArray).toList)) || (kind.toList == (⟨#[99, 97, 108, 108]⟩ : ByteArray).toList)) || (kind.toList == (⟨#[114, 101, 97, 100]⟩ : ByteArray).toList)
def asksS (kind : ByteArray) : Bool := (((kind.toList == (⟨#[105, 102]⟩ : ByteArray).toList) || (kind.toList == (⟨#[119, 104, 105, 108, 101]⟩ : ByteArray).toList)) || (kind.toList == (⟨#[97, 115, 115, 101, 114, 116]⟩ : ByteArray).toList)) || (kind.toList == (⟨#[97, 115, 115, 117, 109, 101]⟩ : ByteArray).toList)
def blocksS (kind : ByteArray) : Bool := (kind.toList == (⟨#[105, 102]⟩ : ByteArray).toList) || (kind.toList == (⟨#[119, 104, 105, 108, 101]⟩ : ByteArray).toList)
def bad1S (kind name proc : ByteArray) : Bool := (((!(namedS kind == isNameG name)) || ((!namedS kind) && !(name.toList == (⟨#[]⟩ : ByteArray).toList))) || (!((kind.toList == (⟨#[99, 97, 108, 108]⟩ : ByteArray).toList) == isNameG proc))) || ((!(kind.toList == (⟨#[99, 97, 108, 108]⟩ : ByteArray).toList)) && !(proc.toList == (⟨#[]⟩ : ByteArray).toList))
def bad2S (kind : ByteArray) (cond : List (List Ts)) (body els : List Sm) : Bool := (((!asksS kind) && decide (((cnd cond).length : Int) > 0)) || ((!blocksS kind) && decide (((sms body).length : Int) > 0))) || ((!(kind.toList == (⟨#[105, 102]⟩ : ByteArray).toList)) && decide (((sms els).length : Int) > 0))
def bad3S (kind : ByteArray) (args : List Ex) : Bool := (asksS kind || (kind.toList == (⟨#[114, 101, 97, 100]⟩ : ByteArray).toList)) && decide (((exs args).length : Int) > 0)
def elseG (els : List Sm) (ind et : ByteArray) : ByteArray := match decide (((sms els).length : Int) > 0) with
 | true => (ind ++ ⟨#[125, 32, 101, 108, 115, 101, 32, 123, 10]⟩) ++ et
 | false => et
/-- A statement's text, its blocks' texts told by B. -/
def stmtB (n : Nat) (B : List Sm → Int → GT) : Sm → Int → GT
 | .mk kind name proc args cond body els, d => match (chkS name && chkS proc) && (chkS kind && decide (0 ≤ d)) with
  | false => none
  | true => match decide (d > 12) with
   | true => some (⟨#[]⟩, false)
   | false => match bad1S kind name proc with
    | true => some (⟨#[]⟩, false)
    | false => match bad2S kind cond body els with
     | true => some (⟨#[]⟩, false)
     | false => match bad3S kind args with
      | true => some (⟨#[]⟩, false)
      | false => match asksS kind with
       | true => match condG n cond with
        | none => none
        | some (c, ok) => match chkS c with
         | false => none
         | true => match (!ok) with
          | true => some (⟨#[]⟩, false)
          | false => match (!blocksS kind) with
           | true => fitG ((((indent d.toNat ++ kind) ++ ⟨#[32]⟩) ++ c) ++ ⟨#[59, 10]⟩) true
           | false => match B body (IntKind.i64.wrap (d + 1)) with
            | none => none
            | some (bt, ok1) => match B els (IntKind.i64.wrap (d + 1)) with
             | none => none
             | some (et, ok2) => match chkS bt && chkS et with
              | false => none
              | true => fitG ((((((((indent d.toNat ++ kind) ++ ⟨#[32]⟩) ++ c) ++ ⟨#[32, 123, 10]⟩) ++ bt) ++ elseG els (indent d.toNat) et) ++ indent d.toNat) ++ ⟨#[125, 10]⟩) (ok1 && ok2)
       | false => match chkL args.length with
        | false => none
        | true => match listG n args 0 ⟨#[]⟩ with
         | none => none
         | some (l, ok) => match chkS l with
          | false => none
          | true => match (kind.toList == (⟨#[114, 101, 97, 100]⟩ : ByteArray).toList) with
           | true => fitG (((indent d.toNat ++ ⟨#[114, 101, 97, 100, 32]⟩) ++ name) ++ ⟨#[59, 10]⟩) true
           | false => match (kind.toList == (⟨#[99, 97, 108, 108]⟩ : ByteArray).toList) with
            | true => fitG ((((((indent d.toNat ++ name) ++ ⟨#[32, 61, 32, 99, 97, 108, 108, 32]⟩) ++ proc) ++ ⟨#[40]⟩) ++ l) ++ ⟨#[41, 59, 10]⟩) ok
            | false => match (kind.toList == (⟨#[115, 101, 116]⟩ : ByteArray).toList) with
             | true => fitG ((((indent d.toNat ++ name) ++ ⟨#[32, 61, 32]⟩) ++ l) ++ ⟨#[59, 10]⟩) (ok && (((exs args).length : Int) == 1))
             | false => match (kind.toList == (⟨#[112, 117, 116]⟩ : ByteArray).toList) with
              | true => match ((!ok) || (((exs args).length : Int) != 2)) with
               | true => some (⟨#[]⟩, false)
               | false => match args with
                | [x, y] => match exprG n x 1 1 with
                 | none => none
                 | some (a, _) => match exprG n y 1 1 with
                  | none => none
                  | some (b, _) => fitG ((((((indent d.toNat ++ name) ++ ⟨#[91]⟩) ++ a) ++ ⟨#[93, 32, 61, 32]⟩) ++ b) ++ ⟨#[59, 10]⟩) true
                | _ => none
              | false => some (⟨#[]⟩, false)
/-- Statements one behind the other, their texts told by S. -/
def blkL (S : Sm → Int → GT) : List Sm → Int → ByteArray → GT
 | [], _, acc => some (acc, true)
 | s :: r, d, acc => match S s d with
  | none => none
  | some (t, ok) => match chkS t with
   | false => none
   | true => match ((!ok) || decide ((acc.size : Int) > 4000)) with
    | true => some (⟨#[]⟩, false)
    | false => match chkS (acc ++ t) with
     | true => blkL S r d (acc ++ t)
     | false => none
def blockN (n : Nat) : Nat → List Sm → Int → GT
 | 0, _, _ => none
 | f + 1, l, d => match chkL l.length with
  | true => blkL (stmtB n (blockN n f)) l d ⟨#[]⟩
  | false => none
def BlkOk (G : Glob) (B : List Sm → Int → GT) : Prop := ∀ (l : List Sm) (d : Int) (s : ByteArray) (b : Bool), B l d = some (s, b) → Spec Tryz.prog G 87 [.d (.sl 7 (sms l)), .d (num d)] [] (.ret (.tup [.d (str s), .d (.s (.bool b))])) []
def StOk (G : Glob) (S : Sm → Int → GT) : Prop := ∀ (st : Sm) (d : Int) (s : ByteArray) (b : Bool), S st d = some (s, b) → Spec Tryz.prog G 159 [.d (.agg st.cs), .d (num d)] [] (.ret (.tup [.d (str s), .d (.s (.bool b))])) []
def p159_33 : Plan := (.take 0 (.take 1 (.load 2 (.take 3 (.take 4 (.take 5 (.take 6 (.take 7 (.take 8 (.take 9 (.take 10 (.load 11 (.take 12 (.take 13 (.take 14 (.take 15 (.take 16 .done)))))))))))))))))
theorem stmtB_spec (G : Glob) (n : Nat) (B : List Sm → Int → GT) (hB : BlkOk G B) : StOk G (stmtB n B) := by
 intro st d s b hG; obtain ⟨kind, name, proc, args, cond, body, els⟩ := st; simp only [stmtB] at hG
 cases hc : ((chkS name && chkS proc) && (chkS kind && decide (0 ≤ d))) with
 | false => simp only [hc] at hG; cases hG
 | true =>
 simp only [hc] at hG; simp only [Bool.and_eq_true, decide_eq_true_eq] at hc; have hnm := chkS_le hc.1.1; have hpr := chkS_le hc.1.2; have hkd := chkS_le hc.2.1; obtain ⟨k, rfl⟩ := Int.eq_ofNat_of_zero_le hc.2.2; rw [Int.toNat_natCast] at hG; have zl0 : (⟨#[32]⟩ : ByteArray).size = 1 := rfl; have zl1 : (⟨#[59, 10]⟩ : ByteArray).size = 2 := rfl; have zl2 : (⟨#[125, 32, 101, 108, 115, 101, 32, 123, 10]⟩ : ByteArray).size = 9 := rfl; have zl3 : (⟨#[32, 123, 10]⟩ : ByteArray).size = 3 := rfl; have zl4 : (⟨#[125, 10]⟩ : ByteArray).size = 2 := rfl; have zl5 : (⟨#[114, 101, 97, 100, 32]⟩ : ByteArray).size = 5 := rfl; have zl6 : (⟨#[32, 61, 32, 99, 97, 108, 108, 32]⟩ : ByteArray).size = 8 := rfl; have zl7 : (⟨#[40]⟩ : ByteArray).size = 1 := rfl; have zl8 : (⟨#[41, 59, 10]⟩ : ByteArray).size = 3 := rfl; have zl9 : (⟨#[32, 61, 32]⟩ : ByteArray).size = 3 := rfl; have zl10 : (⟨#[91]⟩ : ByteArray).size = 1 := rfl; have zl11 : (⟨#[93, 32, 61, 32]⟩ : ByteArray).size = 4 := rfl; refine spec_of_awp2 TT_ok (N := 294) Tryz.func159 rfl (by rfl) (Nat.le_refl _) rfl ?_; refine rgs fun E K J O => ?_; refine O _ (aN [1, 2] rfl rfl ?_); clear O J K E; refine awp_seq ?_; refine rgs fun E K J O => ?_; refine O _ (aN [1, 2, 24] rfl rfl ?_); clear O J K E; refine awp_cond2 rfl (onB_intro (fun h1 => ?_) (fun h1 => ?_))
 ·refine rgs fun E K J O => ?_; refine O _ (aN [4, 5] rfl rfl ?_); clear O J K E; refine awp_ret ?_
  simp only [h1] at hG; obtain ⟨rfl, rfl⟩ := Prod.mk.inj (Option.some.inj hG); exact ⟨_, [], _, [encS _, .d (.s (.bool _))], rfl, rfl, rfl, rfl, rfl, PWs.refl _, rfl⟩
 have hk12 := of_decide_eq_false h1; refine awp_skip ?_; refine awp_cut (fun Z => Z = ⟨[(1, .d (num k)), (2, .box 0 0), (6, .d (.s (.bool (namedS kind))))], [.box 228 [.d (str kind), .d (str name), .d (str proc), .d (.sl 4 (exs args)), .d (.sl 1 (cnd cond)), .d (.sl 7 (sms body)), .d (.sl 7 (sms els))]]⟩) ?_ ?_
 ·refine rgn fun E K J O => ?_
  refine onB_intro (fun h2 => ?_) (fun h2 => ?_)
  ·refine O _ ?_; clear O J K E
   exact ⟨_, sub_norm (slots := [1, 2, 6]) rfl rfl, by first | (simp only [namedS, h2, bz]; done) | (simp only [namedS, h2, bz]; rfl)⟩
  refine onB_intro (fun h3 => ?_) (fun h3 => ?_)
  ·refine O _ ?_; clear O J K E
   exact ⟨_, sub_norm (slots := [1, 2, 6]) rfl rfl, by first | (simp only [namedS, h2, h3, bz]; done) | (simp only [namedS, h2, h3, bz]; rfl)⟩
  refine onB_intro (fun h4 => ?_) (fun h4 => ?_)
  ·refine O _ ?_; clear O J K E
   exact ⟨_, sub_norm (slots := [1, 2, 6]) rfl rfl, by first | (simp only [namedS, h2, h3, h4, bz]; done) | (simp only [namedS, h2, h3, h4, bz]; rfl)⟩
  refine O _ ?_; clear O J K E; exact ⟨_, sub_norm (slots := [1, 2, 6]) rfl rfl, by first | (simp only [namedS, h2, h3, h4, bz]; done) | (simp only [namedS, h2, h3, h4, bz]; rfl)⟩
 rintro Z rfl; refine awp_cut (fun Z => Z = ⟨[(1, .d (num k)), (2, .box 0 0), (6, .d (.s (.bool (namedS kind)))), (7, .d (.s (.bool (asksS kind))))], [.box 228 [.d (str kind), .d (str name), .d (str proc), .d (.sl 4 (exs args)), .d (.sl 1 (cnd cond)), .d (.sl 7 (sms body)), .d (.sl 7 (sms els))]]⟩) ?_ ?_
 ·refine rgn fun E K J O => ?_
  refine onB_intro (fun h2 => ?_) (fun h2 => ?_)
  ·refine O _ ?_; clear O J K E
   exact ⟨_, sub_norm (slots := [1, 2, 6, 7]) rfl rfl, by first | (simp only [asksS, h2, bz]; done) | (simp only [asksS, h2, bz]; rfl)⟩
  refine onB_intro (fun h3 => ?_) (fun h3 => ?_)
  ·refine O _ ?_; clear O J K E
   exact ⟨_, sub_norm (slots := [1, 2, 6, 7]) rfl rfl, by first | (simp only [asksS, h2, h3, bz]; done) | (simp only [asksS, h2, h3, bz]; rfl)⟩
  refine onB_intro (fun h4 => ?_) (fun h4 => ?_)
  ·refine O _ ?_; clear O J K E
   exact ⟨_, sub_norm (slots := [1, 2, 6, 7]) rfl rfl, by first | (simp only [asksS, h2, h3, h4, bz]; done) | (simp only [asksS, h2, h3, h4, bz]; rfl)⟩
  refine O _ ?_; clear O J K E; exact ⟨_, sub_norm (slots := [1, 2, 6, 7]) rfl rfl, by first | (simp only [asksS, h2, h3, h4, bz]; done) | (simp only [asksS, h1, h2, h3, h4, bz]; rfl)⟩
 rintro Z rfl; refine awp_cut (fun Z => Z = ⟨[(1, .d (num k)), (2, .box 0 0), (6, .d (.s (.bool (namedS kind)))), (7, .d (.s (.bool (asksS kind)))), (8, .d (.s (.bool (blocksS kind))))], [.box 228 [.d (str kind), .d (str name), .d (str proc), .d (.sl 4 (exs args)), .d (.sl 1 (cnd cond)), .d (.sl 7 (sms body)), .d (.sl 7 (sms els))]]⟩) ?_ ?_
 ·refine rgn fun E K J O => ?_
  refine onB_intro (fun h2 => ?_) (fun h2 => ?_)
  ·refine O _ ?_; clear O J K E
   exact ⟨_, sub_norm (slots := [1, 2, 6, 7, 8]) rfl rfl, by first | (simp only [blocksS, h2, bz]; done) | (simp only [blocksS, h2, bz]; rfl)⟩
  refine O _ ?_; clear O J K E; exact ⟨_, sub_norm (slots := [1, 2, 6, 7, 8]) rfl rfl, by first | (simp only [blocksS, h2, bz]; done) | (simp only [blocksS, h1, h2, bz]; rfl)⟩
 rintro Z rfl; refine rgs fun E K J O => ?_; show aCall _ _ _ _ _ _ _; refine aR [] rfl rfl rfl (isNameG_spec G name (by omega)) rfl rfl rfl rfl ?_; refine O _ (aN [1, 2, 6, 7, 8, 9] rfl rfl ?_); clear O J K E; refine rgs fun E K J O => ?_; show aCall _ _ _ _ _ _ _; refine aR [] rfl rfl rfl (isNameG_spec G proc (by omega)) rfl rfl rfl rfl ?_; refine O _ (aN [1, 2, 6, 7, 8, 9, 10] rfl rfl ?_); clear O J K E; refine awp_seq ?_; refine awp_cut (fun Z => Z = ⟨[(1, .d (num k)), (2, .box 0 0), (7, .d (.s (.bool (asksS kind)))), (8, .d (.s (.bool (blocksS kind)))), (103, .d (.s (.bool (bad1S kind name proc))))], [.box 228 [.d (str kind), .d (str name), .d (str proc), .d (.sl 4 (exs args)), .d (.sl 1 (cnd cond)), .d (.sl 7 (sms body)), .d (.sl 7 (sms els))]]⟩) ?_ ?_
 ·refine rgn fun E K J O => ?_
  refine onB_intro (fun h2 => ?_) (fun h2 => ?_)
  ·refine O _ ?_; clear O J K E
   exact ⟨_, sub_norm (slots := [1, 2, 7, 8, 103]) rfl rfl, by first | (simp only [bad1S, h2, bz]; done) | (simp only [bad1S, h2, bz]; rfl)⟩
  refine onB_intro (fun h3 => ?_) (fun h3 => ?_)
  ·refine onB_intro (fun h4 => ?_) (fun h4 => ?_)
   ·refine O _ ?_; clear O J K E
    exact ⟨_, sub_norm (slots := [1, 2, 7, 8, 103]) rfl rfl, by first | (simp only [bad1S, h2, h3, h4, bz]; done) | (simp only [bad1S, h2, h3, h4, bz]; rfl)⟩
   refine onB_intro (fun h5 => ?_) (fun h5 => ?_)
   ·refine O _ ?_; clear O J K E
    exact ⟨_, sub_norm (slots := [1, 2, 7, 8, 103]) rfl rfl, by first | (simp only [bad1S, h2, h3, h4, h5, bz]; done) | (simp only [bad1S, h2, h3, h4, h5, bz]; rfl)⟩
   refine onB_intro (fun h6 => ?_) (fun h6 => ?_)
   ·refine O _ ?_; clear O J K E
    exact ⟨_, sub_norm (slots := [1, 2, 7, 8, 103]) rfl rfl, by first | (simp only [bad1S, h2, h3, h4, h5, h6, bz]; done) | (simp only [bad1S, h1, h2, h3, h4, h5, h6, bz]; rfl)⟩
   refine O _ ?_; clear O J K E; exact ⟨_, sub_norm (slots := [1, 2, 7, 8, 103]) rfl rfl, by first | (simp only [bad1S, h2, h3, h4, h5, h6, bz]; done) | (simp only [bad1S, h2, h3, h4, h5, h6, bz]; rfl)⟩
  refine onB_intro (fun h4 => ?_) (fun h4 => ?_)
  ·refine O _ ?_; clear O J K E
   exact ⟨_, sub_norm (slots := [1, 2, 7, 8, 103]) rfl rfl, by first | (simp only [bad1S, h2, h3, h4, bz]; done) | (simp only [bad1S, h2, h3, h4, bz]; rfl)⟩
  refine onB_intro (fun h5 => ?_) (fun h5 => ?_)
  ·refine O _ ?_; clear O J K E
   exact ⟨_, sub_norm (slots := [1, 2, 7, 8, 103]) rfl rfl, by first | (simp only [bad1S, h2, h3, h4, h5, bz]; done) | (simp only [bad1S, h1, h2, h3, h4, h5, bz]; rfl)⟩
  refine O _ ?_; clear O J K E; exact ⟨_, sub_norm (slots := [1, 2, 7, 8, 103]) rfl rfl, by first | (simp only [bad1S, h2, h3, h4, h5, bz]; done) | (simp only [bad1S, h2, h3, h4, h5, bz]; rfl)⟩
 rintro Z rfl; refine awp_cond2 rfl (onB_intro (fun h2 => ?_) (fun h2 => ?_))
 ·refine rgs fun E K J O => ?_; refine O _ (aN [4, 5] rfl rfl ?_); clear O J K E; refine awp_ret ?_
  simp only [h1, h2] at hG; obtain ⟨rfl, rfl⟩ := Prod.mk.inj (Option.some.inj hG); exact ⟨_, [], _, [encS _, .d (.s (.bool _))], rfl, rfl, rfl, rfl, rfl, PWs.refl _, rfl⟩
 refine awp_skip ?_; refine awp_seq ?_; refine awp_cut (fun Z => Z = ⟨[(1, .d (num k)), (2, .box 0 0), (7, .d (.s (.bool (asksS kind)))), (8, .d (.s (.bool (blocksS kind)))), (132, .d (.s (.bool (bad2S kind cond body els))))], [.box 228 [.d (str kind), .d (str name), .d (str proc), .d (.sl 4 (exs args)), .d (.sl 1 (cnd cond)), .d (.sl 7 (sms body)), .d (.sl 7 (sms els))]]⟩) ?_ ?_
 ·refine rgn fun E K J O => ?_
  refine onB_intro (fun h3 => ?_) (fun h3 => ?_)
  ·refine onB_intro (fun h4 => ?_) (fun h4 => ?_)
   ·refine O _ ?_; clear O J K E
    exact ⟨_, sub_norm (slots := [1, 2, 7, 8, 132]) rfl rfl, by first | (simp only [bad2S, h3, h4, bz]; done) | (simp only [bad2S, h3, h4, bz]; rfl)⟩
   refine onB_intro (fun h5 => ?_) (fun h5 => ?_)
   ·refine onB_intro (fun h6 => ?_) (fun h6 => ?_)
    ·refine O _ ?_; clear O J K E
     exact ⟨_, sub_norm (slots := [1, 2, 7, 8, 132]) rfl rfl, by first | (simp only [bad2S, h3, h4, h5, h6, bz]; done) | (simp only [bad2S, h3, h4, h5, h6, bz]; rfl)⟩
    refine onB_intro (fun h7 => ?_) (fun h7 => ?_)
    ·refine O _ ?_; clear O J K E
     exact ⟨_, sub_norm (slots := [1, 2, 7, 8, 132]) rfl rfl, by first | (simp only [bad2S, h3, h4, h5, h6, h7, bz]; done) | (simp only [bad2S, h1, h2, h3, h4, h5, h6, h7, bz]; rfl)⟩
    refine O _ ?_; clear O J K E; exact ⟨_, sub_norm (slots := [1, 2, 7, 8, 132]) rfl rfl, by first | (simp only [bad2S, h3, h4, h5, h6, h7, bz]; done) | (simp only [bad2S, h3, h4, h5, h6, h7, bz]; rfl)⟩
   refine onB_intro (fun h6 => ?_) (fun h6 => ?_)
   ·refine O _ ?_; clear O J K E
    exact ⟨_, sub_norm (slots := [1, 2, 7, 8, 132]) rfl rfl, by first | (simp only [bad2S, h3, h4, h5, h6, bz]; done) | (simp only [bad2S, h1, h2, h3, h4, h5, h6, bz]; rfl)⟩
   refine O _ ?_; clear O J K E; exact ⟨_, sub_norm (slots := [1, 2, 7, 8, 132]) rfl rfl, by first | (simp only [bad2S, h3, h4, h5, h6, bz]; done) | (simp only [bad2S, h3, h4, h5, h6, bz]; rfl)⟩
  refine onB_intro (fun h4 => ?_) (fun h4 => ?_)
  ·refine onB_intro (fun h5 => ?_) (fun h5 => ?_)
   ·refine O _ ?_; clear O J K E
    exact ⟨_, sub_norm (slots := [1, 2, 7, 8, 132]) rfl rfl, by first | (simp only [bad2S, h3, h4, h5, bz]; done) | (simp only [bad2S, h3, h4, h5, bz]; rfl)⟩
   refine onB_intro (fun h6 => ?_) (fun h6 => ?_)
   ·refine O _ ?_; clear O J K E
    exact ⟨_, sub_norm (slots := [1, 2, 7, 8, 132]) rfl rfl, by first | (simp only [bad2S, h3, h4, h5, h6, bz]; done) | (simp only [bad2S, h1, h2, h3, h4, h5, h6, bz]; rfl)⟩
   refine O _ ?_; clear O J K E; exact ⟨_, sub_norm (slots := [1, 2, 7, 8, 132]) rfl rfl, by first | (simp only [bad2S, h3, h4, h5, h6, bz]; done) | (simp only [bad2S, h3, h4, h5, h6, bz]; rfl)⟩
  refine onB_intro (fun h5 => ?_) (fun h5 => ?_)
  ·refine O _ ?_; clear O J K E
   exact ⟨_, sub_norm (slots := [1, 2, 7, 8, 132]) rfl rfl, by first | (simp only [bad2S, h3, h4, h5, bz]; done) | (simp only [bad2S, h1, h2, h3, h4, h5, bz]; rfl)⟩
  refine O _ ?_; clear O J K E; exact ⟨_, sub_norm (slots := [1, 2, 7, 8, 132]) rfl rfl, by first | (simp only [bad2S, h3, h4, h5, bz]; done) | (simp only [bad2S, h3, h4, h5, bz]; rfl)⟩
 rintro Z rfl; refine awp_cond2 rfl (onB_intro (fun h3 => ?_) (fun h3 => ?_))
 ·refine rgs fun E K J O => ?_; refine O _ (aN [4, 5] rfl rfl ?_); clear O J K E; refine awp_ret ?_
  simp only [h1, h2, h3] at hG; obtain ⟨rfl, rfl⟩ := Prod.mk.inj (Option.some.inj hG); exact ⟨_, [], _, [encS _, .d (.s (.bool _))], rfl, rfl, rfl, rfl, rfl, PWs.refl _, rfl⟩
 refine awp_skip ?_; refine awp_seq ?_; refine awp_cut (fun Z => Z = ⟨[(1, .d (num k)), (2, .box 0 0), (7, .d (.s (.bool (asksS kind)))), (8, .d (.s (.bool (blocksS kind)))), (144, .d (.s (.bool (bad3S kind args))))], [.box 228 [.d (str kind), .d (str name), .d (str proc), .d (.sl 4 (exs args)), .d (.sl 1 (cnd cond)), .d (.sl 7 (sms body)), .d (.sl 7 (sms els))]]⟩) ?_ ?_
 ·refine rgn fun E K J O => ?_
  refine onB_intro (fun h4 => ?_) (fun h4 => ?_)
  ·refine O _ ?_; clear O J K E
   exact ⟨_, sub_norm (slots := [1, 2, 7, 8, 144]) rfl rfl, by first | (simp only [bad3S, h4, bz]; done) | (simp only [bad3S, h1, h2, h3, h4, bz]; rfl)⟩
  refine onB_intro (fun h5 => ?_) (fun h5 => ?_)
  ·refine O _ ?_; clear O J K E
   exact ⟨_, sub_norm (slots := [1, 2, 7, 8, 144]) rfl rfl, by first | (simp only [bad3S, h4, h5, bz]; done) | (simp only [bad3S, h1, h2, h3, h4, h5, bz]; rfl)⟩
  refine O _ ?_; clear O J K E; exact ⟨_, sub_norm (slots := [1, 2, 7, 8, 144]) rfl rfl, by first | (simp only [bad3S, h4, h5, bz]; done) | (simp only [bad3S, h4, h5, bz]; rfl)⟩
 rintro Z rfl; refine awp_cond2 rfl (onB_intro (fun h4 => ?_) (fun h4 => ?_))
 ·refine rgs fun E K J O => ?_; refine O _ (aN [4, 5] rfl rfl ?_); clear O J K E; refine awp_ret ?_
  simp only [h1, h2, h3, h4] at hG; obtain ⟨rfl, rfl⟩ := Prod.mk.inj (Option.some.inj hG); exact ⟨_, [], _, [encS _, .d (.s (.bool _))], rfl, rfl, rfl, rfl, rfl, PWs.refl _, rfl⟩
 refine awp_skip ?_; refine rgs fun E K J O => ?_; show aCall _ _ _ _ _ _ _; have hi := indent_size k; refine aR [] rfl rfl rfl (blanks_spec G k (by omega)) rfl rfl rfl rfl ?_; refine O _ (aN [1, 2, 7, 8, 11] rfl rfl ?_); clear O J K E; refine awp_seq ?_; refine rgs fun E K J O => ?_; refine O _ (aN [1, 2, 8, 11, 147] rfl rfl ?_); clear O J K E; refine awp_cond2 rfl (onB_intro (fun h5 => ?_) (fun h5 => ?_))
 ·refine rgs fun E K J O => ?_; show aCall _ _ _ _ _ _ _
  cases hr1 : condG n cond with
  | none =>
   simp only [h1, h2, h3, h4, h5, hr1] at hG; cases hG
  | some v1 =>
   obtain ⟨a1, o1⟩ := v1
   cases hs1 : chkS a1 with
   | false =>
    simp only [h1, h2, h3, h4, h5, hr1, hs1] at hG; cases hG
   | true =>
   have sz1 := chkS_le hs1; refine aR [] rfl rfl rfl (condG_spec G n cond _ _ hr1) rfl rfl rfl rfl ?_; refine O _ (aN [1, 2, 8, 11, 12, 13] rfl rfl ?_); clear O J K E; refine awp_seq ?_; refine rgs fun E K J O => ?_; refine O _ (aN [1, 2, 8, 11, 12, 155] rfl rfl ?_); clear O J K E; refine awp_cond2 rfl (onB_intro (fun h6 => ?_) (fun h6 => ?_))
   ·refine rgs fun E K J O => ?_; refine O _ (aN [4, 5] rfl rfl ?_); clear O J K E; refine awp_ret ?_
    simp only [h1, h2, h3, h4, h5, hr1, hs1, h6] at hG; obtain ⟨rfl, rfl⟩ := Prod.mk.inj (Option.some.inj hG); exact ⟨_, [], _, [encS _, .d (.s (.bool _))], rfl, rfl, rfl, rfl, rfl, PWs.refl _, rfl⟩
   refine awp_skip ?_; refine awp_seq ?_; refine rgs fun E K J O => ?_; refine O _ (aN [1, 2, 11, 12, 157] rfl rfl ?_); clear O J K E; refine awp_cond2 rfl (onB_intro (fun h7 => ?_) (fun h7 => ?_))
   ·refine rgs fun E K J O => ?_
    refine And.intro ((by first | omega | (simp only [ByteArray.size_append] at *; omega))) ?_; refine And.intro ((by first | omega | (simp only [ByteArray.size_append] at *; omega))) ?_; refine And.intro ((by first | omega | (simp only [ByteArray.size_append] at *; omega))) ?_; refine And.intro ((by first | omega | (simp only [ByteArray.size_append] at *; omega))) ?_; refine O _ (aN [4, 5] rfl rfl ?_); clear O J K E; refine awp_ret ?_; simp only [h1, h2, h3, h4, h5, hr1, hs1, h6, h7] at hG; obtain ⟨hz, hr⟩ := fitG_some hG; obtain ⟨rfl, rfl⟩ := Prod.mk.inj hr; exact ⟨_, [], _, [encS _, .d (.s (.bool _))], rfl, rfl, rfl, rfl, rfl, PWs.refl _, rfl⟩
   refine awp_skip ?_; refine rgs fun E K J O => ?_; show aCall _ _ _ _ _ _ _
   cases hr2 : B body (IntKind.i64.wrap ((k : Int) + 1)) with
   | none =>
    simp only [h1, h2, h3, h4, h5, hr1, hs1, h6, h7, hr2] at hG; cases hG
   | some v2 =>
    obtain ⟨a2, o2⟩ := v2; refine aR [] rfl rfl rfl (hB body _ _ _ hr2) rfl rfl rfl rfl ?_; refine O _ (aN [1, 2, 11, 12, 13, 14] rfl rfl ?_); clear O J K E; refine rgs fun E K J O => ?_; show aCall _ _ _ _ _ _ _
    cases hr3 : B els (IntKind.i64.wrap ((k : Int) + 1)) with
    | none =>
     simp only [h1, h2, h3, h4, h5, hr1, hs1, h6, h7, hr2, hr3] at hG; cases hG
    | some v3 =>
     obtain ⟨a3, o3⟩ := v3; refine aR [] rfl rfl rfl (hB els _ _ _ hr3) rfl rfl rfl rfl ?_
     cases hbe : (chkS a2 && chkS a3) with
     | false =>
      simp only [h1, h2, h3, h4, h5, hr1, hs1, h6, h7, hr2, hr3, hbe] at hG; cases hG
     | true =>
     have hbe2 := hbe; simp only [Bool.and_eq_true] at hbe2; have sz2 := chkS_le hbe2.1; have sz3 := chkS_le hbe2.2; refine O _ (aN [2, 11, 12, 13, 14, 15, 16] rfl rfl ?_); clear O J K E; refine awp_cut (fun Z => Z = ⟨[(2, .box 0 0), (11, .d (str (indent k))), (12, .d (str a1)), (13, .d (.s (.bool o2))), (14, .d (str a2)), (15, .d (str (elseG els (indent k) a3))), (16, .d (.s (.bool o3)))], [.box 228 [.d (str kind), .d (str name), .d (str proc), .d (.sl 4 (exs args)), .d (.sl 1 (cnd cond)), .d (.sl 7 (sms body)), .d (.sl 7 (sms els))]]⟩) ?_ ?_
     ·refine rgs fun E K J O => ?_; refine O _ (aN [2, 11, 12, 13, 14, 15, 16, 185] rfl rfl ?_); clear O J K E
      refine awp_cond2 rfl (onB_intro (fun h8 => ?_) (fun h8 => ?_))
      ·refine rgn fun E K J O => ?_
       refine And.intro ((by first | omega | (simp only [ByteArray.size_append] at *; omega))) ?_; refine And.intro ((by first | omega | (simp only [ByteArray.size_append] at *; omega))) ?_; refine O _ ?_; clear O J K E; exact ⟨_, sub_norm (slots := [2, 11, 12, 13, 14, 15, 16]) rfl rfl, by first | (simp only [elseG, h8]; done) | (simp only [elseG, h8]; rfl)⟩
      refine awp_skip ?_; exact ⟨_, sub_norm (slots := [2, 11, 12, 13, 14, 15, 16]) rfl rfl, by first | (simp only [elseG, h8]; done) | (simp only [elseG, h1, h2, h3, h4, h5, hr1, hs1, h6, h7, hr2, hr3, hbe, h8, bz]; rfl)⟩
     rintro Z rfl
     have hes : (elseG els (indent k) a3).size ≤ 1073741824 + 100 := by
      unfold elseG
      split
      ·simp only [ByteArray.size_append]
       have zl : (⟨#[125, 32, 101, 108, 115, 101, 32, 123, 10]⟩ : ByteArray).size = 9 := rfl; omega
      omega
     refine rgs fun E K J O => ?_; refine And.intro ((by first | omega | (simp only [ByteArray.size_append] at *; omega))) ?_; refine And.intro ((by first | omega | (simp only [ByteArray.size_append] at *; omega))) ?_; refine And.intro ((by first | omega | (simp only [ByteArray.size_append] at *; omega))) ?_; refine And.intro ((by first | omega | (simp only [ByteArray.size_append] at *; omega))) ?_; refine And.intro ((by first | omega | (simp only [ByteArray.size_append] at *; omega))) ?_; refine And.intro ((by first | omega | (simp only [ByteArray.size_append] at *; omega))) ?_; refine And.intro ((by first | omega | (simp only [ByteArray.size_append] at *; omega))) ?_; refine And.intro ((by first | omega | (simp only [ByteArray.size_append] at *; omega))) ?_; refine onB_intro (fun h8 => ?_) (fun h8 => ?_)
     ·refine O _ (aN [4, 5] rfl rfl ?_); clear O J K E; refine awp_ret ?_
      simp only [bz, h1, h2, h3, h4, h5, hr1, hs1, h6, h7, hr2, hr3, hbe, h8] at hG; obtain ⟨hz, hr⟩ := fitG_some hG; obtain ⟨rfl, rfl⟩ := Prod.mk.inj hr; exact ⟨_, [], _, [encS _, .d (.s (.bool _))], rfl, rfl, rfl, rfl, rfl, PWs.refl _, rfl⟩
     refine O _ (aN [4, 5] rfl rfl ?_); clear O J K E; refine awp_ret ?_; simp only [bz, h1, h2, h3, h4, h5, hr1, hs1, h6, h7, hr2, hr3, hbe, h8] at hG; obtain ⟨hz, hr⟩ := fitG_some hG; obtain ⟨rfl, rfl⟩ := Prod.mk.inj hr; exact ⟨_, [], _, [encS _, .d (.s (.bool _))], rfl, rfl, rfl, rfl, rfl, PWs.refl _, rfl⟩
 refine awp_skip ?_; refine rgs fun E K J O => ?_; show aCall _ _ _ _ _ _ _
 cases hl : chkL args.length with
 | false =>
  simp only [h1, h2, h3, h4, h5, hl] at hG; cases hG
 | true =>
 have hll : args.length ≤ 1073741824 := of_decide_eq_true hl
 cases hr1 : listG n args 0 ⟨#[]⟩ with
 | none =>
  simp only [h1, h2, h3, h4, h5, hl, hr1] at hG; cases hG
 | some v1 =>
  obtain ⟨a1, o1⟩ := v1
  cases hs1 : chkS a1 with
  | false =>
   simp only [h1, h2, h3, h4, h5, hl, hr1, hs1] at hG; cases hG
  | true =>
  have sz1 := chkS_le hs1; refine aR [] rfl rfl rfl (listG_spec G n args hll _ _ hr1) rfl rfl rfl rfl ?_; refine O _ (aN [2, 11, 17, 18] rfl rfl ?_); clear O J K E; refine awp_seq ?_; refine rgs fun E K J O => ?_; refine O _ (aN [2, 11, 17, 18, 216] rfl rfl ?_); clear O J K E; refine awp_block ?_; refine rgs fun E K J O => ?_; refine O _ (aN [2, 11, 17, 18, 216, 217] rfl rfl ?_); clear O J K E; refine awp_cond2 rfl (onB_intro (fun h6 => ?_) (fun h6 => ?_))
  ·refine rgs fun E K J O => ?_
   refine And.intro ((by first | omega | (simp only [ByteArray.size_append] at *; omega))) ?_; refine And.intro ((by first | omega | (simp only [ByteArray.size_append] at *; omega))) ?_; refine And.intro ((by first | omega | (simp only [ByteArray.size_append] at *; omega))) ?_; refine O _ (aN [4, 5] rfl rfl ?_); clear O J K E; refine awp_ret ?_; simp only [h1, h2, h3, h4, h5, hl, hr1, hs1, h6] at hG; obtain ⟨hz, hr⟩ := fitG_some hG; obtain ⟨rfl, rfl⟩ := Prod.mk.inj hr; exact ⟨_, [], _, [encS _, .d (.s (.bool _))], rfl, rfl, rfl, rfl, rfl, PWs.refl _, rfl⟩
  refine rgs fun E K J O => ?_; refine O _ (aN [2, 11, 17, 18, 216, 225] rfl rfl ?_); clear O J K E; refine awp_cond2 rfl (onB_intro (fun h7 => ?_) (fun h7 => ?_))
  ·refine rgs fun E K J O => ?_
   refine And.intro ((by first | omega | (simp only [ByteArray.size_append] at *; omega))) ?_; refine And.intro ((by first | omega | (simp only [ByteArray.size_append] at *; omega))) ?_; refine And.intro ((by first | omega | (simp only [ByteArray.size_append] at *; omega))) ?_; refine And.intro ((by first | omega | (simp only [ByteArray.size_append] at *; omega))) ?_; refine And.intro ((by first | omega | (simp only [ByteArray.size_append] at *; omega))) ?_; refine And.intro ((by first | omega | (simp only [ByteArray.size_append] at *; omega))) ?_; refine O _ (aN [4, 5] rfl rfl ?_); clear O J K E; refine awp_ret ?_; simp only [h1, h2, h3, h4, h5, hl, hr1, hs1, h6, h7] at hG; obtain ⟨hz, hr⟩ := fitG_some hG; obtain ⟨rfl, rfl⟩ := Prod.mk.inj hr; exact ⟨_, [], _, [encS _, .d (.s (.bool _))], rfl, rfl, rfl, rfl, rfl, PWs.refl _, rfl⟩
  refine rgs fun E K J O => ?_; refine O _ (aN [2, 11, 17, 18, 216, 240] rfl rfl ?_); clear O J K E; refine awp_cond2 rfl (onB_intro (fun h8 => ?_) (fun h8 => ?_))
  ·refine awp_seq ?_
   refine (awp_draw TT_ok mixed p159_33 [] (fun _ => true) (by kernel_rfl) fun E K J O => ?_); refine And.intro ((by first | omega | (simp only [ByteArray.size_append] at *; omega))) ?_; refine And.intro ((by first | omega | (simp only [ByteArray.size_append] at *; omega))) ?_; refine And.intro ((by first | omega | (simp only [ByteArray.size_append] at *; omega))) ?_; refine And.intro ((by first | omega | (simp only [ByteArray.size_append] at *; omega))) ?_; refine onB_intro (fun h9 => ?_) (fun h9 => ?_)
   ·refine O _ (aN [4, 5] rfl rfl ?_); clear O J K E; refine awp_ret ?_
    simp only [bz, h1, h2, h3, h4, h5, hl, hr1, hs1, h6, h7, h8, h9] at hG; obtain ⟨hz, hr⟩ := fitG_some hG; obtain ⟨rfl, rfl⟩ := Prod.mk.inj hr; exact ⟨_, [], _, [encS _, .d (.s (.bool _))], rfl, rfl, rfl, rfl, rfl, PWs.refl _, rfl⟩
   refine O _ (aN [4, 5] rfl rfl ?_); clear O J K E; refine awp_ret ?_; simp only [bz, h1, h2, h3, h4, h5, hl, hr1, hs1, h6, h7, h8, h9] at hG; obtain ⟨hz, hr⟩ := fitG_some hG; obtain ⟨rfl, rfl⟩ := Prod.mk.inj hr; exact ⟨_, [], _, [encS _, .d (.s (.bool _))], rfl, rfl, rfl, rfl, rfl, PWs.refl _, rfl⟩
  refine rgs fun E K J O => ?_; refine O _ (aN [2, 11, 18, 257] rfl rfl ?_); clear O J K E; refine awp_cond2 rfl (onB_intro (fun h9 => ?_) (fun h9 => ?_))
  ·refine awp_seq ?_; refine rgs fun E K J O => ?_
   refine onB_intro (fun h10 => ?_) (fun h10 => ?_)
   ·refine O _ (aN [2, 11, 266] rfl rfl ?_); clear O J K E; refine awp_cond rfl ?_; refine rgs fun E K J O => ?_; refine O _ (aN [4, 5] rfl rfl ?_); clear O J K E; refine awp_ret ?_
    simp only [bz, h1, h2, h3, h4, h5, hl, hr1, hs1, h6, h7, h8, h9, h10] at hG; obtain ⟨rfl, rfl⟩ := Prod.mk.inj (Option.some.inj hG); exact ⟨_, [], _, [encS _, .d (.s (.bool _))], rfl, rfl, rfl, rfl, rfl, PWs.refl _, rfl⟩
   refine O _ (aN [2, 11, 266] rfl rfl ?_); clear O J K E; refine awp_cond2 rfl (onB_intro (fun h11 => ?_) (fun h11 => ?_))
   ·refine rgs fun E K J O => ?_; refine O _ (aN [4, 5] rfl rfl ?_); clear O J K E; refine awp_ret ?_
    simp only [bz, h1, h2, h3, h4, h5, hl, hr1, hs1, h6, h7, h8, h9, h10, h11] at hG; obtain ⟨rfl, rfl⟩ := Prod.mk.inj (Option.some.inj hG); exact ⟨_, [], _, [encS _, .d (.s (.bool _))], rfl, rfl, rfl, rfl, rfl, PWs.refl _, rfl⟩
   obtain ⟨x, y, rfl⟩ := ex_ne2 h11; obtain ⟨p1, n1, m1, l1⟩ := x; obtain ⟨p2, n2, m2, l2⟩ := y; refine awp_skip ?_; refine rgs fun E K J O => ?_; refine And.intro ((by omega)) (Exists.intro _ (And.intro (rfl) ?_))
   show aCall _ _ _ _ _ _ _
   cases hr2 : exprG n (.mk p1 n1 m1 l1) 1 1 with
   | none =>
    simp only [h1, h2, h3, h4, h5, hl, hr1, hs1, h6, h7, h8, h9, h10, h11, hr2] at hG; cases hG
   | some v2 =>
    obtain ⟨a2, o2⟩ := v2; have sz2 := exprG_size n _ _ _ _ _ hr2; refine aR [] rfl rfl rfl (exprG_spec G n (.mk p1 n1 m1 l1) 1 1 _ _ hr2) rfl rfl rfl rfl ?_; refine O _ (aN [2, 11, 19] rfl rfl ?_); clear O J K E; refine rgs fun E K J O => ?_; refine And.intro ((by omega)) (Exists.intro _ (And.intro (rfl) ?_))
    show aCall _ _ _ _ _ _ _
    cases hr3 : exprG n (.mk p2 n2 m2 l2) 1 1 with
    | none =>
     simp only [h1, h2, h3, h4, h5, hl, hr1, hs1, h6, h7, h8, h9, h10, h11, hr2, hr3] at hG; cases hG
    | some v3 =>
     obtain ⟨a3, o3⟩ := v3; have sz3 := exprG_size n _ _ _ _ _ hr3; refine aR [] rfl rfl rfl (exprG_spec G n (.mk p2 n2 m2 l2) 1 1 _ _ hr3) rfl rfl rfl rfl ?_; refine O _ (aN [2, 11, 19, 21] rfl rfl ?_); clear O J K E; refine rgs fun E K J O => ?_; refine And.intro ((by first | omega | (simp only [ByteArray.size_append] at *; omega))) ?_; refine And.intro ((by first | omega | (simp only [ByteArray.size_append] at *; omega))) ?_; refine And.intro ((by first | omega | (simp only [ByteArray.size_append] at *; omega))) ?_; refine And.intro ((by first | omega | (simp only [ByteArray.size_append] at *; omega))) ?_; refine And.intro ((by first | omega | (simp only [ByteArray.size_append] at *; omega))) ?_; refine And.intro ((by first | omega | (simp only [ByteArray.size_append] at *; omega))) ?_; refine O _ (aN [4, 5] rfl rfl ?_); clear O J K E; refine awp_ret ?_; simp only [bz, h1, h2, h3, h4, h5, hl, hr1, hs1, h6, h7, h8, h9, h10, h11, hr2, hr3] at hG; obtain ⟨hz, hr⟩ := fitG_some hG; obtain ⟨rfl, rfl⟩ := Prod.mk.inj hr; exact ⟨_, [], _, [encS _, .d (.s (.bool _))], rfl, rfl, rfl, rfl, rfl, PWs.refl _, rfl⟩
  refine awp_skip ?_; refine rgs fun E K J O => ?_; refine O _ (aN [4, 5] rfl rfl ?_); clear O J K E; refine awp_ret ?_; simp only [h1, h2, h3, h4, h5, hl, hr1, hs1, h6, h7, h8, h9] at hG; obtain ⟨rfl, rfl⟩ := Prod.mk.inj (Option.some.inj hG); exact ⟨_, [], _, [encS _, .d (.s (.bool _))], rfl, rfl, rfl, rfl, rfl, PWs.refl _, rfl⟩
end Go.Abs
end
section
namespace Go.Abs
open Go Go.Proofs
attribute [local irreducible] aCall AWp Sub Spec
theorem sms_len2 : ∀ l : List Sm, (sms l).length = l.length
 | [] => rfl
 | s :: r => by simp only [sms, List.length_cons, sms_len2 r]
theorem sms_at2 {l d e : List Sm} {x : Sm} (h : l = d ++ x :: e) : (sms l)[((d.length : Nat) : Int).toNat]? = some x.cs := by
 subst h; rw [Int.toNat_natCast]
 induction d with
 | nil => rfl
 | cons y d ih => simpa only [List.cons_append, sms, List.length_cons, List.getElem?_cons_succ] using ih
theorem blkL_spec (G : Glob) (S : Sm → Int → GT) (hS : StOk G S) (l : List Sm) (hn : l.length ≤ 1073741824) (dd : Int) (s : ByteArray) (b : Bool) (hG : blkL S l dd ⟨#[]⟩ = some (s, b)) : Spec Tryz.prog G 87 [.d (.sl 7 (sms l)), .d (num dd)] [] (.ret (.tup [.d (str s), .d (.s (.bool b))])) [] := by
 refine spec_of_awp2 TT_ok (N := 36) Tryz.func87 rfl (by rfl) (Nat.le_refl _) rfl ?_; refine rgs fun E K J O => ?_; refine O _ (aN [0, 1] rfl rfl ?_); clear O J K E; refine rgs fun E K J O => ?_; refine O _ (aN [0, 1, 6] rfl rfl ?_); clear O J K E; refine awp_seq ?_; refine rgs fun E K J O => ?_; refine O _ (aN [0, 1, 6, 7] rfl rfl ?_); clear O J K E; refine awp_block ?_; refine awp_loop (fun k Y => ∃ (d1 e1 : List Sm) (acc : ByteArray), k = e1.length ∧ l = d1 ++ e1 ∧ blkL S e1 dd acc = some (s, b) ∧ acc.size ≤ 1073741824 ∧ Y = ⟨[(0, .d (.sl 7 (sms l))), (1, .d (num dd)), (6, .d (str acc)), (7, .d (num d1.length))], []⟩) (l.length) (⟨[], l, ⟨#[]⟩, rfl, rfl, hG, Nat.zero_le _, rfl⟩) ?_; clear hG; rintro k Y ⟨d1, e1, acc, rfl, hl1, hG, hz1_0, rfl⟩
 have hll1 : (sms l).length = d1.length + e1.length := by rw [sms_len2, hl1, List.length_append]
 have hdl1 : d1.length + e1.length ≤ 1073741824 := by rw [hl1, List.length_append] at hn; exact hn
 refine awp_seq ?_; refine rgs fun E K J O => ?_; refine O _ (aN [0, 1, 6, 7, 13] rfl rfl ?_); clear O J K E; refine awp_cond2 rfl (onB_intro (fun h1 => ?_) (fun h1 => ?_))
 ·have h1' := of_decide_eq_true h1
  rw [hll1] at h1'
  cases e1 with
  | nil => simp only [List.length_nil] at h1'; omega
  | cons x e1b =>
  obtain ⟨q1, q2, q3, q4, q5, q6, q7⟩ := x; subst hl1; simp only [List.length_cons] at hdl1; simp only [blkL] at hG; refine awp_skip ?_; refine awp_seq ?_; refine awp_block ?_; refine rgs fun E K J O => ?_; refine And.intro ((by omega)) (Exists.intro _ (And.intro (sms_at2 rfl) ?_))
  show aCall _ _ _ _ _ _ _
  cases hr1 : S (.mk q1 q2 q3 q4 q5 q6 q7) dd with
  | none =>
   simp only [hr1] at hG; cases hG
  | some v1 =>
  obtain ⟨a1, o1⟩ := v1
  cases hs1 : chkS a1 with
  | false =>
   simp only [hr1, hs1] at hG; cases hG
  | true =>
  have sz1 := chkS_le hs1; refine aR [] rfl rfl rfl (hS _ dd _ _ hr1) rfl rfl rfl rfl ?_; refine O _ (aN [0, 1, 6, 7, 8, 9] rfl rfl ?_); clear O J K E; refine awp_seq ?_; refine rgs fun E K J O => ?_; refine onB_intro (fun h2 => ?_) (fun h2 => ?_)
  ·refine O _ (aN [0, 1, 6, 7, 8, 31] rfl rfl ?_); clear O J K E; refine awp_cond rfl ?_; refine rgs fun E K J O => ?_; refine O _ (aN [4, 5] rfl rfl ?_); clear O J K E; refine awp_ret ?_
   simp only [bz, hr1, hs1, h2] at hG; obtain ⟨rfl, rfl⟩ := Prod.mk.inj (Option.some.inj hG); exact ⟨_, [], _, [encS _, .d (.s (.bool _))], rfl, rfl, rfl, rfl, rfl, PWs.refl _, rfl⟩
  refine O _ (aN [0, 1, 6, 7, 8, 31] rfl rfl ?_); clear O J K E; refine awp_cond2 rfl (onB_intro (fun h3 => ?_) (fun h3 => ?_))
  ·refine rgs fun E K J O => ?_; refine O _ (aN [4, 5] rfl rfl ?_); clear O J K E; refine awp_ret ?_
   simp only [bz, hr1, hs1, h2, h3] at hG; obtain ⟨rfl, rfl⟩ := Prod.mk.inj (Option.some.inj hG); exact ⟨_, [], _, [encS _, .d (.s (.bool _))], rfl, rfl, rfl, rfl, rfl, PWs.refl _, rfl⟩
  cases hc : chkS (acc ++ a1) with
  | false => simp only [hr1, hs1, h2, h3, hc, bz] at hG; cases hG
  | true =>
  have hq := chkS_le hc; simp only [hr1, hs1, h2, h3, hc, bz] at hG; refine awp_skip ?_; refine rgn fun E K J O => ?_; refine And.intro ((by first | omega | (simp only [ByteArray.size_append] at *; omega))) ?_; refine O _ (aN [0, 1, 6, 7] rfl rfl ?_); clear O J K E; refine rgn fun E K J O => ?_; refine O _ ?_; clear O J K E; exact ⟨_, Nat.lt_succ_self _, _, sub_norm (slots := [0, 1, 6, 7]) rfl rfl, d1 ++ [.mk q1 q2 q3 q4 q5 q6 q7], e1b, _, rfl, by simp, hG, hq, by rw [List.length_append, wrapId (by omega) (by omega)]; rfl⟩
 have h1' := of_decide_eq_false h1; rw [hll1] at h1'; obtain rfl : e1 = [] := List.eq_nil_of_length_eq_zero (by omega); simp only [blkL] at hG; refine awp_exit ?_; refine awp_norm [6] rfl rfl ?_; refine rgs fun E K J O => ?_; refine O _ (aN [4, 5] rfl rfl ?_); clear O J K E; refine awp_ret ?_; obtain ⟨rfl, rfl⟩ := Prod.mk.inj (Option.some.inj hG); exact ⟨_, [], _, [encS _, .d (.s (.bool _))], rfl, rfl, rfl, rfl, rfl, PWs.refl _, rfl⟩
theorem blockN_spec (G : Glob) (n : Nat) : ∀ f, BlkOk G (blockN n f)
 | 0 => fun l d s b h => by simp only [blockN] at h; cases h
 | f + 1 => fun l d s b h => by
  simp only [blockN] at h; split at h
  ·rename_i hc
   exact blkL_spec G _ (stmtB_spec G n _ (blockN_spec G n f)) l (of_decide_eq_true hc) d s b h
  cases h
def varsG (K : ByteArray → GT) : List ByteArray → ByteArray → GT
 | [], acc => K acc
 | v :: r, acc => match chkS v && chkS (((acc ++ ⟨#[118, 97, 114, 32]⟩) ++ v) ++ ⟨#[59, 10]⟩) with
  | false => none
  | true => match (!isNameG v) with
   | true => some (⟨#[]⟩, false)
   | false => varsG K r (((acc ++ ⟨#[118, 97, 114, 32]⟩) ++ v) ++ ⟨#[59, 10]⟩)
def arrsG (K : ByteArray → GT) : List Ar → ByteArray → GT
 | [], acc => K acc
 | ⟨nm, sz⟩ :: r, acc => match (chkS nm && chkN sz) && chkS (((((acc ++ ⟨#[97, 114, 114, 97, 121, 32]⟩) ++ nm) ++ ⟨#[91]⟩) ++ itoaB sz) ++ ⟨#[93, 59, 10]⟩) with
  | false => none
  | true => match (((!isNameG nm) || decide (sz < 0)) || decide (sz > 1099511627776)) with
   | true => some (⟨#[]⟩, false)
   | false => arrsG K r (((((acc ++ ⟨#[97, 114, 114, 97, 121, 32]⟩) ++ nm) ++ ⟨#[91]⟩) ++ itoaB sz) ++ ⟨#[93, 59, 10]⟩)
def prmG (K : Bool → ByteArray → GT) : List ByteArray → Nat → Bool → ByteArray → GT
 | [], _, ok, l => K ok l
 | v :: r, i, ok, l => match chkS v && chkS (sepG i l ⟨#[44, 32]⟩ ++ v) with
  | false => none
  | true => prmG K r (i + 1) (ok && isNameG v) (sepG i l ⟨#[44, 32]⟩ ++ v)
def procK (n : Nat) (B : List Sm → Int → GT) (nm : ByteArray) (bd : List Sm) (rt : Ex) (acc : ByteArray) (K : ByteArray → GT) (ok : Bool) (l : ByteArray) : GT := match B bd 1 with
 | none => none
 | some (bt, fine) => match exprG n rt 1 1 with
  | none => none
  | some (et, good) => match (chkS bt && chkS et) && chkS (((((((((acc ++ ⟨#[112, 114, 111, 99, 32]⟩) ++ nm) ++ ⟨#[40]⟩) ++ l) ++ ⟨#[41, 32, 123, 10]⟩) ++ bt) ++ ⟨#[32, 32, 114, 101, 116, 117, 114, 110, 32]⟩) ++ et) ++ ⟨#[59, 10, 125, 10]⟩) with
   | false => none
   | true => match ((((!ok) || (!fine)) || (!good)) || decide ((acc.size : Int) > 4000)) with
    | true => some (⟨#[]⟩, false)
    | false => K (((((((((acc ++ ⟨#[112, 114, 111, 99, 32]⟩) ++ nm) ++ ⟨#[40]⟩) ++ l) ++ ⟨#[41, 32, 123, 10]⟩) ++ bt) ++ ⟨#[32, 32, 114, 101, 116, 117, 114, 110, 32]⟩) ++ et) ++ ⟨#[59, 10, 125, 10]⟩)
def procsG (n : Nat) (B : List Sm → Int → GT) (K : ByteArray → GT) : List Pc → ByteArray → GT
 | [], acc => K acc
 | ⟨nm, ps, bd, rt⟩ :: r, acc => match chkS nm && chkL ps.length with
  | false => none
  | true => prmG (procK n B nm bd rt acc (procsG n B K r)) ps 0 (isNameG nm) ⟨#[]⟩
def mainG (B : List Sm → Int → GT) (m : List Sm) (acc : ByteArray) : GT := match B m 1 with
 | none => none
 | some (mt, ok) => match chkS mt with
  | false => none
  | true => fitG (((acc ++ ⟨#[109, 97, 105, 110, 32, 123, 10]⟩) ++ mt) ++ ⟨#[125, 10]⟩) (ok && decide (((((acc ++ ⟨#[109, 97, 105, 110, 32, 123, 10]⟩) ++ mt) ++ ⟨#[125, 10]⟩).size : Int) ≤ 4000))
def progG (n f : Nat) (p : Pg) : GT := match (chkL p.vars.length && chkL p.arrays.length) && chkL p.procs.length with
 | false => none
 | true => varsG (arrsG (procsG n (blockN n f) (mainG (blockN n f) p.main) p.procs) p.arrays) p.vars ⟨#[]⟩
def p24_15 : Plan := (.take 0 (.take 1 (.take 2 (.load 3 (.take 4 (.take 5 (.take 6 (.load 7 (.take 8 (.take 9 (.take 10 (.load 11 (.take 12 (.take 13 (.take 14 (.load 15 (.one 16 (.take 17 (.take 18 (.take 19 .done))))))))))))))))))))
theorem progG_spec (G : Glob) (n f : Nat) (p : Pg) (s : ByteArray) (b : Bool) (hG : progG n f p = some (s, b)) : Spec Tryz.prog G 24 [.d (.agg p.cs)] [] (.ret (.tup [.d (str s), .d (.s (.bool b))])) [] := by
 obtain ⟨vars, arrays, procs, main⟩ := p
 unfold progG at hG
 cases hcl : ((chkL vars.length && chkL arrays.length) && chkL procs.length) with
 | false => simp only [hcl] at hG; cases hG
 | true =>
 simp only [hcl] at hG; have hn := hcl; simp only [chkL, Bool.and_eq_true, decide_eq_true_eq] at hn; obtain ⟨⟨hn1, hn2⟩, hn3⟩ := hn; have zl0 : (⟨#[118, 97, 114, 32]⟩ : ByteArray).size = 4 := rfl; have zl1 : (⟨#[59, 10]⟩ : ByteArray).size = 2 := rfl; have zl2 : (⟨#[97, 114, 114, 97, 121, 32]⟩ : ByteArray).size = 6 := rfl; have zl3 : (⟨#[91]⟩ : ByteArray).size = 1 := rfl; have zl4 : (⟨#[93, 59, 10]⟩ : ByteArray).size = 3 := rfl; have zl5 : (⟨#[44, 32]⟩ : ByteArray).size = 2 := rfl; have zl6 : (⟨#[112, 114, 111, 99, 32]⟩ : ByteArray).size = 5 := rfl; have zl7 : (⟨#[40]⟩ : ByteArray).size = 1 := rfl; have zl8 : (⟨#[41, 32, 123, 10]⟩ : ByteArray).size = 4 := rfl; have zl9 : (⟨#[32, 32, 114, 101, 116, 117, 114, 110, 32]⟩ : ByteArray).size = 9 := rfl; have zl10 : (⟨#[59, 10, 125, 10]⟩ : ByteArray).size = 4 := rfl; have zl11 : (⟨#[109, 97, 105, 110, 32, 123, 10]⟩ : ByteArray).size = 7 := rfl; have zl12 : (⟨#[125, 10]⟩ : ByteArray).size = 2 := rfl; refine spec_of_awp2 TT_ok (N := 201) Tryz.func24 rfl (by rfl) (Nat.le_refl _) rfl ?_; refine rgs fun E K J O => ?_; refine O _ (aN [1] rfl rfl ?_); clear O J K E; refine rgs fun E K J O => ?_; refine O _ (aN [1, 4] rfl rfl ?_); clear O J K E; refine awp_seq ?_; refine rgs fun E K J O => ?_; refine O _ (aN [1, 4, 5] rfl rfl ?_); clear O J K E; refine awp_block ?_; refine awp_loop (fun k Y => ∃ (d1 e1 : List ByteArray) (acc : ByteArray), k = e1.length ∧ vars = d1 ++ e1 ∧ varsG (arrsG (procsG n (blockN n f) (mainG (blockN n f) main) procs) arrays) e1 acc = some (s, b) ∧ acc.size ≤ 1073741824 ∧ Y = ⟨[(1, .box 0 0), (4, .d (str acc)), (5, .d (num d1.length))], [.box 37 [.d (.sl 1 (strs vars)), .d (.sl 2 (arrays.map Ar.cs)), .d (.sl 7 (procs.map Pc.cs)), .d (.sl 7 (sms main))]]⟩) (vars.length) (⟨[], vars, ⟨#[]⟩, rfl, rfl, hG, Nat.zero_le _, rfl⟩) ?_; clear hG; rintro k Y ⟨d1, e1, acc, rfl, hl1, hG, hz1_0, rfl⟩
 have hll1 : (strs vars).length = d1.length + e1.length := by rw [strs_length, hl1, List.length_append]
 have hdl1 : d1.length + e1.length ≤ 1073741824 := by rw [hl1, List.length_append] at hn1; exact hn1
 refine awp_seq ?_; refine rgs fun E K J O => ?_; refine O _ (aN [1, 4, 5, 25] rfl rfl ?_); clear O J K E; refine awp_cond2 rfl (onB_intro (fun h1 => ?_) (fun h1 => ?_))
 ·have h1' := of_decide_eq_true h1
  rw [hll1] at h1'
  cases e1 with
  | nil => simp only [List.length_nil] at h1'; omega
  | cons x e1b =>
  subst hl1; simp only [List.length_cons] at hdl1; simp only [varsG] at hG
  cases hc : (chkS x && chkS (((acc ++ ⟨#[118, 97, 114, 32]⟩) ++ x) ++ ⟨#[59, 10]⟩)) with
  | false => simp only [hc] at hG; cases hG
  | true =>
  simp only [hc] at hG; have hcc := hc; simp only [Bool.and_eq_true] at hcc; have sx := chkS_le hcc.1; have hq := chkS_le hcc.2; refine awp_skip ?_; refine awp_seq ?_; refine awp_block ?_; refine rgs fun E K J O => ?_; refine And.intro (by omega) (Exists.intro _ (And.intro (str_at rfl) ?_))
  show aCall _ _ _ _ _ _ _
  refine aR [] rfl rfl rfl (isNameG_spec G x (by omega)) rfl rfl rfl rfl ?_; refine O _ (aN [1, 4, 5, 6] rfl rfl ?_); clear O J K E; refine awp_seq ?_; refine rgs fun E K J O => ?_; refine O _ (aN [1, 4, 5, 35] rfl rfl ?_); clear O J K E; refine awp_cond2 rfl (onB_intro (fun h2 => ?_) (fun h2 => ?_))
  ·refine rgs fun E K J O => ?_; refine O _ (aN [2, 3] rfl rfl ?_); clear O J K E; refine awp_ret ?_
   simp only [h2] at hG; obtain ⟨rfl, rfl⟩ := Prod.mk.inj (Option.some.inj hG); exact ⟨_, [], _, [encS _, .d (.s (.bool _))], rfl, rfl, rfl, rfl, rfl, PWs.refl _, rfl⟩
  simp only [h2] at hG; refine awp_skip ?_; refine rgn fun E K J O => ?_; refine And.intro ((by first | omega | (simp only [ByteArray.size_append] at *; omega))) ?_; refine And.intro (by omega) (Exists.intro _ (And.intro (str_at rfl) ?_)); refine And.intro ((by first | omega | (simp only [ByteArray.size_append] at *; omega))) ?_; refine And.intro ((by first | omega | (simp only [ByteArray.size_append] at *; omega))) ?_; refine O _ (aN [1, 4, 5] rfl rfl ?_); clear O J K E; refine rgn fun E K J O => ?_; refine O _ ?_; clear O J K E; exact ⟨_, Nat.lt_succ_self _, _, sub_norm (slots := [1, 4, 5]) rfl rfl, d1 ++ [x], e1b, _, rfl, by simp, hG, hq, by rw [List.length_append, wrapId (by omega) (by omega)]; rfl⟩
 have h1' := of_decide_eq_false h1; rw [hll1] at h1'; obtain rfl : e1 = [] := List.eq_nil_of_length_eq_zero (by omega); simp only [varsG] at hG; refine awp_exit ?_; refine awp_norm [1, 4] rfl rfl ?_; refine awp_seq ?_; refine rgs fun E K J O => ?_; refine O _ (aN [1, 4, 7] rfl rfl ?_); clear O J K E; refine awp_block ?_; refine awp_loop (fun k Y => ∃ (d2 e2 : List Ar) (acc : ByteArray), k = e2.length ∧ arrays = d2 ++ e2 ∧ arrsG (procsG n (blockN n f) (mainG (blockN n f) main) procs) e2 acc = some (s, b) ∧ acc.size ≤ 1073741824 ∧ Y = ⟨[(1, .box 0 0), (4, .d (str acc)), (7, .d (num d2.length))], [.box 37 [.d (.sl 1 (strs vars)), .d (.sl 2 (arrays.map Ar.cs)), .d (.sl 7 (procs.map Pc.cs)), .d (.sl 7 (sms main))]]⟩) (arrays.length) (⟨[], arrays, _, rfl, rfl, hG, hz1_0, rfl⟩) ?_; clear hG; rintro k Y ⟨d2, e2, acc, rfl, hl2, hG, hz2_0, rfl⟩
 have hll2 : (arrays.map Ar.cs).length = d2.length + e2.length := by rw [List.length_map, hl2, List.length_append]
 have hdl2 : d2.length + e2.length ≤ 1073741824 := by rw [hl2, List.length_append] at hn2; exact hn2
 refine awp_seq ?_; refine rgs fun E K J O => ?_; refine O _ (aN [1, 4, 7, 49] rfl rfl ?_); clear O J K E; refine awp_cond2 rfl (onB_intro (fun h2 => ?_) (fun h2 => ?_))
 ·have h2' := of_decide_eq_true h2
  rw [hll2] at h2'
  cases e2 with
  | nil => simp only [List.length_nil] at h2'; omega
  | cons x e2b =>
  obtain ⟨nm, sz⟩ := x; subst hl2; simp only [List.length_cons] at hdl2; simp only [arrsG] at hG
  cases hc : ((chkS nm && chkN sz) && chkS (((((acc ++ ⟨#[97, 114, 114, 97, 121, 32]⟩) ++ nm) ++ ⟨#[91]⟩) ++ itoaB sz) ++ ⟨#[93, 59, 10]⟩)) with
  | false => simp only [hc] at hG; cases hG
  | true =>
  simp only [hc] at hG; have hcc := hc; simp only [Bool.and_eq_true] at hcc; have sx := chkS_le hcc.1.1; have hq := chkS_le hcc.2; have hzi := itoaB_size hcc.1.2; refine awp_skip ?_; refine awp_seq ?_; refine awp_block ?_; refine rgs fun E K J O => ?_; refine And.intro (by omega) (Exists.intro _ (And.intro (ars_at rfl) ?_))
  show aCall _ _ _ _ _ _ _
  refine aR [] rfl rfl rfl (isNameG_spec G nm (by omega)) rfl rfl rfl rfl ?_; refine O _ (aN [1, 4, 7, 8] rfl rfl ?_); clear O J K E; refine awp_seq ?_; refine rgs fun E K J O => ?_; refine onB_intro (fun h3 => ?_) (fun h3 => ?_)
  ·refine O _ (aN [1, 4, 7, 78] rfl rfl ?_); clear O J K E; refine awp_cond rfl ?_; refine rgs fun E K J O => ?_; refine O _ (aN [2, 3] rfl rfl ?_); clear O J K E; refine awp_ret ?_
   simp only [bz, h3] at hG; obtain ⟨rfl, rfl⟩ := Prod.mk.inj (Option.some.inj hG); exact ⟨_, [], _, [encS _, .d (.s (.bool _))], rfl, rfl, rfl, rfl, rfl, PWs.refl _, rfl⟩
  refine And.intro (by omega) (Exists.intro _ (And.intro (ars_at rfl) ?_)); refine onB_intro (fun h4 => ?_) (fun h4 => ?_)
  ·refine O _ (aN [1, 4, 7, 78] rfl rfl ?_); clear O J K E; refine awp_cond rfl ?_; refine rgs fun E K J O => ?_; refine O _ (aN [2, 3] rfl rfl ?_); clear O J K E; refine awp_ret ?_
   simp only [bz, h3, h4] at hG; obtain ⟨rfl, rfl⟩ := Prod.mk.inj (Option.some.inj hG); exact ⟨_, [], _, [encS _, .d (.s (.bool _))], rfl, rfl, rfl, rfl, rfl, PWs.refl _, rfl⟩
  refine And.intro (by omega) (Exists.intro _ (And.intro (ars_at rfl) ?_)); refine O _ (aN [1, 4, 7, 78] rfl rfl ?_); clear O J K E; refine awp_cond2 rfl (onB_intro (fun h5 => ?_) (fun h5 => ?_))
  ·refine rgs fun E K J O => ?_; refine O _ (aN [2, 3] rfl rfl ?_); clear O J K E; refine awp_ret ?_
   simp only [bz, h3, h4, h5] at hG; obtain ⟨rfl, rfl⟩ := Prod.mk.inj (Option.some.inj hG); exact ⟨_, [], _, [encS _, .d (.s (.bool _))], rfl, rfl, rfl, rfl, rfl, PWs.refl _, rfl⟩
  simp only [h3, h4, h5, bz] at hG; refine awp_skip ?_; refine (awp_draw TT_ok mixed p24_15 [] (fun _ => true) (by kernel_rfl) fun E K J O => ?_); refine And.intro ((by first | omega | (simp only [ByteArray.size_append] at *; omega))) ?_; refine And.intro (by omega) (Exists.intro _ (And.intro (ars_at rfl) ?_)); refine And.intro ((by first | omega | (simp only [ByteArray.size_append] at *; omega))) ?_; refine And.intro ((by first | omega | (simp only [ByteArray.size_append] at *; omega))) ?_; refine And.intro (by omega) (Exists.intro _ (And.intro (ars_at rfl) ?_))
  show aCall _ _ _ _ _ _ _
  refine aR [] rfl rfl rfl (dec_spec G sz hcc.1.2) rfl rfl rfl rfl ?_; refine And.intro ((by first | omega | (simp only [ByteArray.size_append] at *; omega))) ?_; refine And.intro ((by first | omega | (simp only [ByteArray.size_append] at *; omega))) ?_; refine O _ (aN [1, 4, 7] rfl rfl ?_); clear O J K E; refine rgn fun E K J O => ?_; refine O _ ?_; clear O J K E; exact ⟨_, Nat.lt_succ_self _, _, sub_norm (slots := [1, 4, 7]) rfl rfl, d2 ++ [⟨nm, sz⟩], e2b, _, rfl, by simp, hG, hq, by rw [List.length_append, wrapId (by omega) (by omega)]; rfl⟩
 have h2' := of_decide_eq_false h2; rw [hll2] at h2'; obtain rfl : e2 = [] := List.eq_nil_of_length_eq_zero (by omega); simp only [arrsG] at hG; refine awp_exit ?_; refine awp_norm [1, 4] rfl rfl ?_; refine awp_seq ?_; refine rgs fun E K J O => ?_; refine O _ (aN [1, 4, 9] rfl rfl ?_); clear O J K E; refine awp_block ?_; refine awp_loop (fun k Y => ∃ (d3 e3 : List Pc) (acc : ByteArray), k = e3.length ∧ procs = d3 ++ e3 ∧ procsG n (blockN n f) (mainG (blockN n f) main) e3 acc = some (s, b) ∧ acc.size ≤ 1073741824 ∧ Y = ⟨[(1, .box 0 0), (4, .d (str acc)), (9, .d (num d3.length))], [.box 37 [.d (.sl 1 (strs vars)), .d (.sl 2 (arrays.map Ar.cs)), .d (.sl 7 (procs.map Pc.cs)), .d (.sl 7 (sms main))]]⟩) (procs.length) (⟨[], procs, _, rfl, rfl, hG, hz2_0, rfl⟩) ?_; clear hG; rintro k Y ⟨d3, e3, acc, rfl, hl3, hG, hz3_0, rfl⟩
 have hll3 : (procs.map Pc.cs).length = d3.length + e3.length := by rw [List.length_map, hl3, List.length_append]
 have hdl3 : d3.length + e3.length ≤ 1073741824 := by rw [hl3, List.length_append] at hn3; exact hn3
 refine awp_seq ?_; refine rgs fun E K J O => ?_; refine O _ (aN [1, 4, 9, 102] rfl rfl ?_); clear O J K E; refine awp_cond2 rfl (onB_intro (fun h3 => ?_) (fun h3 => ?_))
 ·have h3' := of_decide_eq_true h3
  rw [hll3] at h3'
  cases e3 with
  | nil => simp only [List.length_nil] at h3'; omega
  | cons x e3b =>
  obtain ⟨nm, ps, bd, rt⟩ := x; obtain ⟨p1, n1, m1, l1⟩ := rt; subst hl3; simp only [List.length_cons] at hdl3; simp only [procsG] at hG
  cases hc : (chkS nm && chkL ps.length) with
  | false => simp only [hc] at hG; cases hG
  | true =>
  simp only [hc] at hG; have hcc := hc; simp only [Bool.and_eq_true] at hcc; have sx := chkS_le hcc.1; have hpl : ps.length ≤ 1073741824 := of_decide_eq_true hcc.2; refine awp_skip ?_; refine awp_seq ?_; refine awp_block ?_; refine rgs fun E K J O => ?_; refine And.intro (by omega) (Exists.intro _ (And.intro (pcs_at rfl) ?_)); refine O _ (aN [1, 4, 9, 10] rfl rfl ?_); clear O J K E; refine rgs fun E K J O => ?_; show aCall _ _ _ _ _ _ _; refine aR [] rfl rfl rfl (isNameG_spec G nm (by omega)) rfl rfl rfl rfl ?_; refine O _ (aN [1, 4, 9, 10, 11] rfl rfl ?_); clear O J K E; refine rgs fun E K J O => ?_; refine O _ (aN [1, 4, 9, 10, 11, 12] rfl rfl ?_); clear O J K E; refine awp_seq ?_; refine rgs fun E K J O => ?_; refine O _ (aN [1, 4, 9, 10, 11, 12, 13] rfl rfl ?_); clear O J K E; refine awp_block ?_; refine awp_loop (fun k Y => ∃ (d4 e4 : List ByteArray) (ok : Bool) (l : ByteArray), k = e4.length ∧ ps = d4 ++ e4 ∧ prmG (procK n (blockN n f) nm bd (.mk p1 n1 m1 l1) acc (procsG n (blockN n f) (mainG (blockN n f) main) e3b)) e4 d4.length ok l = some (s, b) ∧ l.size ≤ 1073741824 ∧ Y = ⟨[(1, .box 0 0), (4, .d (str acc)), (9, .d (num d3.length)), (10, .box 1 0), (11, .d (.s (.bool ok))), (12, .d (str l)), (13, .d (num d4.length))], [.box 37 [.d (.sl 1 (strs vars)), .d (.sl 2 (arrays.map Ar.cs)), .d (.sl 7 ((d3 ++ ⟨nm, ps, bd, .mk p1 n1 m1 l1⟩ :: e3b).map Pc.cs)), .d (.sl 7 (sms main))], .box 145 [.d (str nm), .d (.sl 1 (strs ps)), .d (.sl 7 (sms bd)), .d (str p1), .d (num n1), .d (str m1), .d (.sl 4 (exs l1))]]⟩) (ps.length) (⟨[], ps, _, ⟨#[]⟩, rfl, rfl, hG, Nat.zero_le _, rfl⟩) ?_; clear hG; rintro k Y ⟨d4, e4, ok, l, rfl, hl4, hG, hz4_0, rfl⟩
  have hll4 : (strs ps).length = d4.length + e4.length := by rw [strs_length, hl4, List.length_append]
  have hdl4 : d4.length + e4.length ≤ 1073741824 := by rw [hl4, List.length_append] at hpl; exact hpl
  refine awp_seq ?_; refine rgs fun E K J O => ?_; refine O _ (aN [1, 4, 9, 10, 11, 12, 13, 117] rfl rfl ?_); clear O J K E; refine awp_cond2 rfl (onB_intro (fun h4 => ?_) (fun h4 => ?_))
  ·have h4' := of_decide_eq_true h4
   rw [hll4] at h4'
   cases e4 with
   | nil => simp only [List.length_nil] at h4'; omega
   | cons x e4b =>
   subst hl4; simp only [List.length_cons] at hdl4; simp only [prmG] at hG
   cases hc4 : (chkS x && chkS ((sepG d4.length l ⟨#[44, 32]⟩) ++ x)) with
   | false => simp only [hc4] at hG; cases hG
   | true =>
   simp only [hc4] at hG; have hcc4 := hc4; simp only [Bool.and_eq_true] at hcc4; have sx4 := chkS_le hcc4.1; have hq4 := chkS_le hcc4.2; refine awp_skip ?_; refine awp_seq ?_; refine awp_block ?_; refine rgs fun E K J O => ?_; refine And.intro (by omega) (Exists.intro _ (And.intro (str_at rfl) ?_))
   show aCall _ _ _ _ _ _ _
   refine aR [] rfl rfl rfl (isNameG_spec G x (by omega)) rfl rfl rfl rfl ?_; refine O _ (aN [1, 4, 9, 10, 11, 12, 13, 14] rfl rfl ?_); clear O J K E; refine awp_cut (fun Z => Z = ⟨[(1, .box 0 0), (4, .d (str acc)), (9, .d (num d3.length)), (10, .box 1 0), (11, .d (.s (.bool (ok && isNameG x)))), (12, .d (str l)), (13, .d (num d4.length))], [.box 37 [.d (.sl 1 (strs vars)), .d (.sl 2 (arrays.map Ar.cs)), .d (.sl 7 ((d3 ++ ⟨nm, d4 ++ x :: e4b, bd, .mk p1 n1 m1 l1⟩ :: e3b).map Pc.cs)), .d (.sl 7 (sms main))], .box 145 [.d (str nm), .d (.sl 1 (strs (d4 ++ x :: e4b))), .d (.sl 7 (sms bd)), .d (str p1), .d (num n1), .d (str m1), .d (.sl 4 (exs l1))]]⟩) ?_ ?_
   ·refine rgn fun E K J O => ?_
    refine onB_intro (fun h5 => ?_) (fun h5 => ?_)
    ·refine O _ ?_; clear O J K E
     exact ⟨_, sub_norm (slots := [1, 4, 9, 10, 11, 12, 13]) rfl rfl, by first | (simp only [h5, bz]; done) | (simp only [h4, h5, bz]; rfl)⟩
    refine O _ ?_; clear O J K E; exact ⟨_, sub_norm (slots := [1, 4, 9, 10, 11, 12, 13]) rfl rfl, by first | (simp only [h5, bz]; done) | (simp only [h5, bz]; rfl)⟩
   rintro Z rfl; refine awp_cut (fun Z => Z = ⟨[(1, .box 0 0), (4, .d (str acc)), (9, .d (num d3.length)), (10, .box 1 0), (11, .d (.s (.bool (ok && isNameG x)))), (12, .d (str (sepG d4.length l ⟨#[44, 32]⟩))), (13, .d (num d4.length))], [.box 37 [.d (.sl 1 (strs vars)), .d (.sl 2 (arrays.map Ar.cs)), .d (.sl 7 ((d3 ++ ⟨nm, d4 ++ x :: e4b, bd, .mk p1 n1 m1 l1⟩ :: e3b).map Pc.cs)), .d (.sl 7 (sms main))], .box 145 [.d (str nm), .d (.sl 1 (strs (d4 ++ x :: e4b))), .d (.sl 7 (sms bd)), .d (str p1), .d (num n1), .d (str m1), .d (.sl 4 (exs l1))]]⟩) ?_ ?_
   ·refine rgs fun E K J O => ?_; refine O _ (aN [1, 4, 9, 10, 11, 12, 13, 131] rfl rfl ?_); clear O J K E
    refine awp_cond2 rfl (onB_intro (fun h5 => ?_) (fun h5 => ?_))
    ·refine rgn fun E K J O => ?_
     refine And.intro ((by first | omega | (simp only [ByteArray.size_append] at *; omega))) ?_; refine O _ ?_; clear O J K E; exact ⟨_, sub_norm (slots := [1, 4, 9, 10, 11, 12, 13]) rfl rfl, by first | (simp only [sepG, h5]; done) | (simp only [sepG, h5]; rfl)⟩
    refine awp_skip ?_; exact ⟨_, sub_norm (slots := [1, 4, 9, 10, 11, 12, 13]) rfl rfl, by first | (simp only [sepG, h5]; done) | (simp only [sepG, h5, bz]; rfl)⟩
   rintro Z rfl; have hs4 := sep_size (i := d4.length) (sep := ⟨#[44, 32]⟩) hz4_0; refine rgn fun E K J O => ?_; refine And.intro (by omega) (Exists.intro _ (And.intro (str_at rfl) ?_)); refine And.intro ((by first | omega | (simp only [ByteArray.size_append] at *; omega))) ?_; refine O _ (aN [1, 4, 9, 10, 11, 12, 13] rfl rfl ?_); clear O J K E; refine rgn fun E K J O => ?_; refine O _ ?_; clear O J K E; exact ⟨_, Nat.lt_succ_self _, _, sub_norm (slots := [1, 4, 9, 10, 11, 12, 13]) rfl rfl, d4 ++ [x], e4b, _, _, rfl, by simp, (by rw [List.length_append]; exact hG), hq4, by rw [List.length_append, wrapId (by omega) (by omega)]; rfl⟩
  have h4' := of_decide_eq_false h4; rw [hll4] at h4'; obtain rfl : e4 = [] := List.eq_nil_of_length_eq_zero (by omega); simp only [prmG] at hG; refine awp_exit ?_; refine awp_norm [1, 4, 9, 10, 11, 12] rfl rfl ?_; refine rgs fun E K J O => ?_; show aCall _ _ _ _ _ _ _; simp only [procK] at hG
  cases hr1 : blockN n f bd 1 with
  | none => simp only [hr1] at hG; cases hG
  | some v1 =>
  obtain ⟨a1, o1⟩ := v1; refine aR [] rfl rfl rfl (blockN_spec G n f bd 1 _ _ hr1) rfl rfl rfl rfl ?_; refine O _ (aN [1, 4, 9, 10, 11, 12, 15, 16] rfl rfl ?_); clear O J K E; refine rgs fun E K J O => ?_; show aCall _ _ _ _ _ _ _
  cases hr2 : exprG n (.mk p1 n1 m1 l1) 1 1 with
  | none => simp only [hr1, hr2] at hG; cases hG
  | some v2 =>
  obtain ⟨a2, o2⟩ := v2
  cases hc3 : ((chkS a1 && chkS a2) && chkS (((((((((acc ++ ⟨#[112, 114, 111, 99, 32]⟩) ++ nm) ++ ⟨#[40]⟩) ++ l) ++ ⟨#[41, 32, 123, 10]⟩) ++ a1) ++ ⟨#[32, 32, 114, 101, 116, 117, 114, 110, 32]⟩) ++ a2) ++ ⟨#[59, 10, 125, 10]⟩)) with
  | false => simp only [hr1, hr2, hc3] at hG; cases hG
  | true =>
  have hcc3 := hc3; simp only [Bool.and_eq_true] at hcc3; have sz1 := chkS_le hcc3.1.1; have sz2 := chkS_le hcc3.1.2; have hq3 := chkS_le hcc3.2; simp only [hr1, hr2, hc3] at hG; refine aR [] rfl rfl rfl (exprG_spec G n (.mk p1 n1 m1 l1) 1 1 _ _ hr2) rfl rfl rfl rfl ?_; refine O _ (aN [1, 4, 9, 10, 11, 12, 15, 16, 17, 18] rfl rfl ?_); clear O J K E; refine awp_seq ?_; refine rgs fun E K J O => ?_; refine onB_intro (fun h5 => ?_) (fun h5 => ?_)
  ·refine O _ (aN [1, 4, 9, 10, 12, 15, 17, 167] rfl rfl ?_); clear O J K E; refine awp_cond rfl ?_; refine rgs fun E K J O => ?_; refine O _ (aN [2, 3] rfl rfl ?_); clear O J K E; refine awp_ret ?_
   simp only [bz, h5] at hG; obtain ⟨rfl, rfl⟩ := Prod.mk.inj (Option.some.inj hG); exact ⟨_, [], _, [encS _, .d (.s (.bool _))], rfl, rfl, rfl, rfl, rfl, PWs.refl _, rfl⟩
  refine onB_intro (fun h6 => ?_) (fun h6 => ?_)
  ·refine O _ (aN [1, 4, 9, 10, 12, 15, 17, 167] rfl rfl ?_); clear O J K E; refine awp_cond rfl ?_; refine rgs fun E K J O => ?_; refine O _ (aN [2, 3] rfl rfl ?_); clear O J K E; refine awp_ret ?_
   simp only [bz, h5, h6] at hG; obtain ⟨rfl, rfl⟩ := Prod.mk.inj (Option.some.inj hG); exact ⟨_, [], _, [encS _, .d (.s (.bool _))], rfl, rfl, rfl, rfl, rfl, PWs.refl _, rfl⟩
  refine onB_intro (fun h7 => ?_) (fun h7 => ?_)
  ·refine O _ (aN [1, 4, 9, 10, 12, 15, 17, 167] rfl rfl ?_); clear O J K E; refine awp_cond rfl ?_; refine rgs fun E K J O => ?_; refine O _ (aN [2, 3] rfl rfl ?_); clear O J K E; refine awp_ret ?_
   simp only [bz, h5, h6, h7] at hG; obtain ⟨rfl, rfl⟩ := Prod.mk.inj (Option.some.inj hG); exact ⟨_, [], _, [encS _, .d (.s (.bool _))], rfl, rfl, rfl, rfl, rfl, PWs.refl _, rfl⟩
  refine O _ (aN [1, 4, 9, 10, 12, 15, 17, 167] rfl rfl ?_); clear O J K E; refine awp_cond2 rfl (onB_intro (fun h8 => ?_) (fun h8 => ?_))
  ·refine rgs fun E K J O => ?_; refine O _ (aN [2, 3] rfl rfl ?_); clear O J K E; refine awp_ret ?_
   simp only [bz, h5, h6, h7, h8] at hG; obtain ⟨rfl, rfl⟩ := Prod.mk.inj (Option.some.inj hG); exact ⟨_, [], _, [encS _, .d (.s (.bool _))], rfl, rfl, rfl, rfl, rfl, PWs.refl _, rfl⟩
  simp only [h5, h6, h7, h8, bz] at hG; refine awp_skip ?_; refine rgn fun E K J O => ?_; refine And.intro ((by first | omega | (simp only [ByteArray.size_append] at *; omega))) ?_; refine And.intro ((by first | omega | (simp only [ByteArray.size_append] at *; omega))) ?_; refine And.intro ((by first | omega | (simp only [ByteArray.size_append] at *; omega))) ?_; refine And.intro ((by first | omega | (simp only [ByteArray.size_append] at *; omega))) ?_; refine And.intro ((by first | omega | (simp only [ByteArray.size_append] at *; omega))) ?_; refine And.intro ((by first | omega | (simp only [ByteArray.size_append] at *; omega))) ?_; refine And.intro ((by first | omega | (simp only [ByteArray.size_append] at *; omega))) ?_; refine And.intro ((by first | omega | (simp only [ByteArray.size_append] at *; omega))) ?_; refine And.intro ((by first | omega | (simp only [ByteArray.size_append] at *; omega))) ?_; refine O _ (aN [1, 4, 9] rfl rfl ?_); clear O J K E; refine rgn fun E K J O => ?_; refine O _ ?_; clear O J K E; exact ⟨_, Nat.lt_succ_self _, _, sub_pick (L := [0]) (slots := [1, 4, 9]) rfl rfl rfl rfl rfl, d3 ++ [⟨nm, ps, bd, .mk p1 n1 m1 l1⟩], e3b, _, rfl, by simp, hG, hq3, by rw [List.length_append, wrapId (by omega) (by omega)]; rfl⟩
 have h3' := of_decide_eq_false h3; rw [hll3] at h3'; obtain rfl : e3 = [] := List.eq_nil_of_length_eq_zero (by omega); simp only [procsG] at hG; refine awp_exit ?_; refine awp_norm [1, 4] rfl rfl ?_; refine rgs fun E K J O => ?_; show aCall _ _ _ _ _ _ _; simp only [mainG] at hG
 cases hr1 : blockN n f main 1 with
 | none => simp only [hr1] at hG; cases hG
 | some v1 =>
 obtain ⟨a1, o1⟩ := v1
 cases hs1 : chkS a1 with
 | false => simp only [hr1, hs1] at hG; cases hG
 | true =>
 have sz1 := chkS_le hs1; simp only [hr1, hs1] at hG; obtain ⟨hz, hr⟩ := fitG_some hG; refine aR [] rfl rfl rfl (blockN_spec G n f main 1 _ _ hr1) rfl rfl rfl rfl ?_; refine O _ (aN [4, 19, 20] rfl rfl ?_); clear O J K E; refine rgs fun E K J O => ?_; refine And.intro ((by first | omega | (simp only [ByteArray.size_append] at *; omega))) ?_; refine And.intro ((by first | omega | (simp only [ByteArray.size_append] at *; omega))) ?_; refine And.intro ((by first | omega | (simp only [ByteArray.size_append] at *; omega))) ?_; refine O _ (aN [4, 20] rfl rfl ?_); clear O J K E; refine rgs fun E K J O => ?_; refine onB_intro (fun h4 => ?_) (fun h4 => ?_)
 ·refine O _ (aN [2, 3] rfl rfl ?_); clear O J K E; refine awp_ret ?_
  simp only [bz, h4] at hr; obtain ⟨rfl, rfl⟩ := Prod.mk.inj hr; exact ⟨_, [], _, [encS _, .d (.s (.bool _))], rfl, rfl, rfl, rfl, rfl, PWs.refl _, rfl⟩
 refine O _ (aN [2, 3] rfl rfl ?_); clear O J K E; refine awp_ret ?_; simp only [bz, h4] at hr; obtain ⟨rfl, rfl⟩ := Prod.mk.inj hr; exact ⟨_, [], _, [encS _, .d (.s (.bool _))], rfl, rfl, rfl, rfl, rfl, PWs.refl _, rfl⟩
end Go.Abs
end
