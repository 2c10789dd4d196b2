/- Texts of this proof, joined: AbsUB, AbsUC, AbsUD, AbsUE. -/
import Derived.Test.YtedljfabpknjiaaGreatDoorF13
section
namespace Go.Abs
open Go Go.Proofs
attribute [local irreducible] aCall AWp Sub Spec
/-- A number that the machine may have. -/
def sml (n : Int) : Prop := -1099511627776 ≤ n ∧ n ≤ 1099511627776
def VOk (vs : List (ByteArray × Int)) : Prop := ∀ q, q ∈ vs → sml q.2
def AOk (ar : List (ByteArray × List Int)) : Prop := ∀ q, q ∈ ar → ∀ n, n ∈ q.2 → sml n
theorem sml0 : sml 0 := ⟨by decide, by decide⟩
theorem getV_sml : ∀ {vs : List (ByteArray × Int)} {s : ByteArray}, VOk vs → sml (getV vs s)
  | [], _, _ => sml0
  | (k, p) :: r, s, h => by
    simp only [getV]
    cases (s == k)
    · exact getV_sml fun q hq => h q (List.mem_cons_of_mem _ hq)
    exact h _ (List.mem_cons_self ..)
theorem putV_sml : ∀ {vs : List (ByteArray × Int)} {s : ByteArray} {n : Int}, VOk vs → sml n → VOk (putV vs s n)
  | [], s, n, _, hn => fun q hq => by
    rw [List.mem_singleton.1 hq]; exact hn
  | (k, p) :: r, s, n, h, hn => by
    have h1 := putV_sml (s := s) (fun q hq => h q (List.mem_cons_of_mem _ hq)) hn; simp only [putV]
    cases (s == k)
    · intro q hq
      rcases List.mem_cons.1 hq with rfl | hq
      · exact h _ (List.mem_cons_self ..)
      exact h1 q hq
    intro q hq
    rcases List.mem_cons.1 hq with rfl | hq
    · exact hn
    exact h q (List.mem_cons_of_mem _ hq)
theorem getA_sml : ∀ {ar : List (ByteArray × List Int)} {s : ByteArray} {n : Int}, AOk ar → n ∈ getA ar s → sml n
  | [], _, _, _, hn => by cases hn
  | (k, p) :: r, s, n, h, hn => by
    simp only [getA] at hn
    cases hb : (s == k) with
    | false => rw [hb] at hn; exact getA_sml (fun q hq => h q (List.mem_cons_of_mem _ hq)) hn
    | true => rw [hb] at hn; exact h _ (List.mem_cons_self ..) n hn
theorem setA_sml : ∀ {ar : List (ByteArray × List Int)} {s : ByteArray} {i : Nat} {n : Int}, AOk ar → sml n → AOk (setA ar s i n)
  | [], _, _, _, h, _ => h
  | (k, p) :: r, s, i, n, h, hn => by
    have h1 := setA_sml (s := s) (i := i) (fun q hq => h q (List.mem_cons_of_mem _ hq)) hn; simp only [setA]
    cases (s == k)
    · intro q hq
      rcases List.mem_cons.1 hq with rfl | hq
      · exact h _ (List.mem_cons_self ..)
      exact h1 q hq
    intro q hq
    rcases List.mem_cons.1 hq with rfl | hq
    · intro m hm
      rcases List.mem_or_eq_of_mem_set hm with hm | rfl
      · exact h _ (List.mem_cons_self ..) m hm
      exact hn
    exact h q (List.mem_cons_of_mem _ hq)
theorem smallM_sml {n c : Int} (h : smallM n = some c) : c = n ∧ sml n := by
  unfold smallM at h
  split at h
  · cases h
  rename_i hf; simp only [farM, Bool.or_eq_false_iff, decide_eq_false_iff_not] at hf; simp only [Option.some.injEq] at h; exact ⟨h.symm, by unfold sml; omega⟩
theorem tdiv_sml {a b : Int} (h : sml a) : sml (IntKind.i64.wrap (Int.tdiv a b)) := by
  have h1 : (Int.tdiv a b).natAbs = a.natAbs / b.natAbs := Int.natAbs_tdiv a b; have h2 := Nat.div_le_self a.natAbs b.natAbs
  unfold sml at h ⊢
  rw [i64_id (by omega) (by omega)]; omega
theorem tmod_sml {a b : Int} (h : sml a) : sml (Int.tmod a b) := by
  have h1 : (Int.tmod a b).natAbs = a.natAbs % b.natAbs := Int.natAbs_tmod a b; have h2 := Nat.mod_le a.natAbs b.natAbs
  unfold sml at h ⊢
  omega
theorem ev_ar {vs : List (ByteArray × Int)} {ar : List (ByteArray × List Int)} (hV : VOk vs) (hA : AOk ar) : (∀ (e : Ex) (n : Int), evM vs ar e = some n → sml n) := by
  refine Ex.rec (motive_1 := fun e => ∀ n, evM vs ar e = some n → sml n) (motive_2 := fun l => ∀ e, e ∈ l → ∀ n, evM vs ar e = some n → sml n) ?_ ?_ ?_
  · intro op k nm l ih n h
    unfold evM at h
    repeat' split at h
    all_goals first
      | cases h; done
      | exact (smallM_sml h).1 ▸ (smallM_sml h).2
      | (simp only [Option.some.injEq] at h; subst h; first
          | exact getV_sml hV
          | exact tdiv_sml (ih _ (List.mem_cons_self ..) _ (by assumption))
          | exact tmod_sml (ih _ (List.mem_cons_self ..) _ (by assumption))
          | (have := ih _ (List.mem_cons_self ..) _ (by assumption)
             unfold sml at this ⊢
             rw [i64_id (by omega) (by omega)]
             omega))
      | exact getA_sml hA (List.mem_of_getElem? h)
  · intro e he
    cases he
  intro x l hx hl e he
  rcases List.mem_cons.1 he with rfl | he
  · exact hx
  exact hl e he
/-- The state's terms and cells, as a function of State's has them. -/
def stR (vs : List (ByteArray × Int)) (ar : List (ByteArray × List Int)) : List Row := [.map 185 (vsL vs), .amap 186 false ar]
def StP : PV := .agg [.acc 0, .am 1 0]
def wrongP : PV := .d (.ifc 273 (str wWrong))
def outN : Option Int → Out
  | some n => .ret (.d (num n))
  | none => .pan wrongP
theorem sh1 {l : List Ex} (h : (Nat.ble 1 l.length && shL l) = true) : ∃ x r, l = x :: r ∧ shE x = true := by
  cases l with
  | nil => cases h
  | cons x r =>
    simp only [shL, Bool.and_eq_true] at h; exact ⟨x, r, rfl, h.2.1⟩
theorem sh2 {l : List Ex} (h : (Nat.ble 2 l.length && shL l) = true) : ∃ x y r, l = x :: y :: r ∧ shE x = true ∧ shE y = true := by
  match l, h with
  | [], h => cases h
  | [x], h => cases h
  | x :: y :: r, h =>
    simp only [shL, Bool.and_eq_true] at h; exact ⟨x, y, r, rfl, h.2.1, h.2.2.1⟩
theorem exs_0 (x : Ex) (r : List Ex) : (exs (x :: r))[(0 : Int).toNat]? = some x.cs := rfl
theorem exs_1 (x y : Ex) (r : List Ex) : (exs (x :: y :: r))[(1 : Int).toNat]? = some y.cs := rfl
theorem neq0 {b : Int} (h : (b == 0) = false) : b ≠ 0 := fun q => by rw [q] at h; cases h
theorem maxI_pos {a : Int} (h : sml a) (h0 : (a != 0) = true) : maxI a (IntKind.i64.wrap (0 - a)) ≠ 0 := by
  have h1 : a ≠ 0 := by simpa using h0
  unfold sml at h
  rw [i64_id (by omega) (by omega)]
  unfold maxI
  split <;> omega
section
variable (G : Glob)
theorem far_spec (n : Int) : Spec Tryz.prog G 93 [.d (num n)] [] (.ret (.d (.s (.bool (farM n))))) [] := by
  obtain ⟨b, hG⟩ : ∃ b, farM n = b := ⟨_, rfl⟩; rw [hG]; simp only [farM] at hG; refine spec_of_awp2 TT_ok (N := 9) Tryz.func93 rfl (by rfl) (Nat.le_refl _) rfl ?_; refine rgs fun E K J O => ?_; refine O _ (aN [0] rfl rfl ?_); clear O J K E; refine rgs fun E K J O => ?_; refine onB_intro (fun h1 => ?_) (fun h1 => ?_)
  · refine O _ (aN [2] rfl rfl ?_); clear O J K E; refine awp_ret ?_
    try simp only [bn, h1] at hG
    subst hG; exact ⟨_, [], _, [.d (.s (.bool _))], rfl, rfl, rfl, rfl, rfl, PWs.refl _, rfl⟩
  refine O _ (aN [2] rfl rfl ?_); clear O J K E; refine awp_ret ?_
  try simp only [bn, h1] at hG
  subst hG; exact ⟨_, [], _, [.d (.s (.bool _))], rfl, rfl, rfl, rfl, rfl, PWs.refl _, rfl⟩
theorem small_yes (n : Int) : Spec Tryz.prog G 261 [.d (num n), .d (.s (.bool true))] [] (outN (smallM n)) [] := by
  obtain ⟨b, hG⟩ : ∃ b, smallM n = b := ⟨_, rfl⟩; rw [hG]; simp only [smallM] at hG; refine spec_of_awp2 TT_ok (N := 13) Tryz.func261 rfl (by rfl) (Nat.le_refl _) rfl ?_; refine rgs fun E K J O => ?_; refine O _ (aN [0, 1] rfl rfl ?_); clear O J K E; refine awp_seq ?_; refine rgs fun E K J O => ?_; show aCall _ _ _ _ _ _ _; refine aR [] rfl rfl rfl (far_spec G n) rfl rfl rfl rfl ?_; refine O _ (aN [0, 10] rfl rfl ?_); clear O J K E; refine awp_cond2 rfl (onB_intro (fun h1 => ?_) (fun h1 => ?_))
  · refine rgn fun E K J O => ?_; refine J _ _ ?_
    try simp only [h1] at hG
    subst hG; exact ⟨[], _, rfl, rfl, rfl, rfl, rfl⟩
  refine awp_skip ?_; refine rgs fun E K J O => ?_; refine O _ (aN [4] rfl rfl ?_); clear O J K E; refine awp_ret ?_
  try simp only [h1] at hG
  subst hG; exact ⟨_, [], _, [.d (num _)], rfl, rfl, rfl, rfl, rfl, PWs.refl _, rfl⟩
theorem small_no (n : Int) : Spec Tryz.prog G 261 [.d (num n), .d (.s (.bool false))] [] (.pan wrongP) [] := by
  refine spec_of_awp2 TT_ok (N := 13) Tryz.func261 rfl (by rfl) (Nat.le_refl _) rfl ?_; refine rgs fun E K J O => ?_; refine O _ (aN [0, 1] rfl rfl ?_); clear O J K E; refine awp_seq ?_; refine rgs fun E K J O => ?_; refine O _ (aN [0, 10] rfl rfl ?_); clear O J K E; refine awp_cond rfl ?_; refine rgn fun E K J O => ?_; refine J _ _ ?_; exact ⟨[], _, rfl, rfl, rfl, rfl, rfl⟩
def outPr : Option Int → PV
  | some n => .tup [.d (num n), .d (.s (.bool true))]
  | none => .tup [.d (num 0), .d (.s (.bool false))]
theorem product_spec (a b : Int) (ha : sml a) : Spec Tryz.prog G 262 [.d (num a), .d (num b)] [] (.ret (outPr (prodM a b))) [] := by
  obtain ⟨R, hG⟩ : ∃ R, prodM a b = R := ⟨_, rfl⟩; rw [hG]; simp only [prodM] at hG; refine spec_of_awp2 TT_ok (N := 23) Tryz.func262 rfl (by rfl) (Nat.le_refl _) rfl ?_; refine rgs fun E K J O => ?_; refine O _ (aN [0, 1] rfl rfl ?_); clear O J K E; refine awp_seq ?_; refine rgs fun E K J O => ?_; refine onB_intro (fun h1 => ?_) (fun h1 => ?_)
  · refine And.intro (maxI_pos ha h1) ?_
    refine O _ (aN [0, 1, 19] rfl rfl ?_); clear O J K E; refine awp_cond2 rfl (onB_intro (fun h2 => ?_) (fun h2 => ?_))
    · refine rgs fun E K J O => ?_; refine O _ (aN [4, 5] rfl rfl ?_); clear O J K E; refine awp_ret ?_
      try simp only [bn, h1, h2] at hG
      subst hG; exact ⟨_, [], _, [.d (num _), .d (.s (.bool _))], rfl, rfl, rfl, rfl, rfl, PWs.refl _, rfl⟩
    refine awp_skip ?_; refine rgs fun E K J O => ?_; refine O _ (aN [4, 5] rfl rfl ?_); clear O J K E; refine awp_ret ?_
    try simp only [bn, h1, h2] at hG
    subst hG; exact ⟨_, [], _, [.d (num _), .d (.s (.bool _))], rfl, rfl, rfl, rfl, rfl, PWs.refl _, rfl⟩
  refine O _ (aN [0, 1, 19] rfl rfl ?_); clear O J K E; refine awp_cond rfl ?_; refine awp_skip ?_; refine rgs fun E K J O => ?_; refine O _ (aN [4, 5] rfl rfl ?_); clear O J K E; refine awp_ret ?_
  try simp only [bn, h1] at hG
  subst hG; exact ⟨_, [], _, [.d (num _), .d (.s (.bool _))], rfl, rfl, rfl, rfl, rfl, PWs.refl _, rfl⟩
theorem holds_spec (a : Int) (rel : ByteArray) (b : Int) : Spec Tryz.prog G 189 [.d (num a), .d (str rel), .d (num b)] [] (.ret (.d (.s (.bool (holdsM a rel b))))) [] := by
  obtain ⟨R, hG⟩ : ∃ R, holdsM a rel b = R := ⟨_, rfl⟩; rw [hG]; simp only [holdsM] at hG; refine spec_of_awp2 TT_ok (N := 36) Tryz.func189 rfl (by rfl) (Nat.le_refl _) rfl ?_; refine rgs fun E K J O => ?_; refine O _ (aN [0, 1, 2] rfl rfl ?_); clear O J K E; refine awp_seq ?_; refine rgs fun E K J O => ?_; refine O _ (aN [0, 2, 7] rfl rfl ?_); clear O J K E; refine awp_block ?_; refine rgs fun E K J O => ?_; refine O _ (aN [0, 2, 7, 8] rfl rfl ?_); clear O J K E; refine awp_cond2 rfl (onB_intro (fun h1 => ?_) (fun h1 => ?_))
  · refine rgs fun E K J O => ?_; refine O _ (aN [6] rfl rfl ?_); clear O J K E; refine awp_ret ?_
    try simp only [h1] at hG
    subst hG; exact ⟨_, [], _, [.d (.s (.bool _))], rfl, rfl, rfl, rfl, rfl, PWs.refl _, rfl⟩
  refine rgs fun E K J O => ?_; refine O _ (aN [0, 2, 7, 13] rfl rfl ?_); clear O J K E; refine awp_cond2 rfl (onB_intro (fun h2 => ?_) (fun h2 => ?_))
  · refine rgs fun E K J O => ?_; refine O _ (aN [6] rfl rfl ?_); clear O J K E; refine awp_ret ?_
    try simp only [h1, h2] at hG
    subst hG; exact ⟨_, [], _, [.d (.s (.bool _))], rfl, rfl, rfl, rfl, rfl, PWs.refl _, rfl⟩
  refine rgs fun E K J O => ?_; refine O _ (aN [0, 2, 7, 18] rfl rfl ?_); clear O J K E; refine awp_cond2 rfl (onB_intro (fun h3 => ?_) (fun h3 => ?_))
  · refine rgs fun E K J O => ?_; refine O _ (aN [6] rfl rfl ?_); clear O J K E; refine awp_ret ?_
    try simp only [h1, h2, h3] at hG
    subst hG; exact ⟨_, [], _, [.d (.s (.bool _))], rfl, rfl, rfl, rfl, rfl, PWs.refl _, rfl⟩
  refine rgs fun E K J O => ?_; refine O _ (aN [0, 2, 7, 23] rfl rfl ?_); clear O J K E; refine awp_cond2 rfl (onB_intro (fun h4 => ?_) (fun h4 => ?_))
  · refine rgs fun E K J O => ?_; refine O _ (aN [6] rfl rfl ?_); clear O J K E; refine awp_ret ?_
    try simp only [h1, h2, h3, h4] at hG
    subst hG; exact ⟨_, [], _, [.d (.s (.bool _))], rfl, rfl, rfl, rfl, rfl, PWs.refl _, rfl⟩
  refine rgs fun E K J O => ?_; refine O _ (aN [0, 2, 28] rfl rfl ?_); clear O J K E; refine awp_cond2 rfl (onB_intro (fun h5 => ?_) (fun h5 => ?_))
  · refine rgs fun E K J O => ?_; refine O _ (aN [6] rfl rfl ?_); clear O J K E; refine awp_ret ?_
    try simp only [h1, h2, h3, h4, h5] at hG
    subst hG; exact ⟨_, [], _, [.d (.s (.bool _))], rfl, rfl, rfl, rfl, rfl, PWs.refl _, rfl⟩
  refine awp_skip ?_; refine rgs fun E K J O => ?_; refine O _ (aN [6] rfl rfl ?_); clear O J K E; refine awp_ret ?_
  try simp only [h1, h2, h3, h4, h5] at hG
  subst hG; exact ⟨_, [], _, [.d (.s (.bool _))], rfl, rfl, rfl, rfl, rfl, PWs.refl _, rfl⟩
def EvOk (m : Nat) : Prop := ∀ (vs : List (ByteArray × Int)) (ar : List (ByteArray × List Int)) (e : Ex), fuE e ≤ m → shE e = true → VOk vs → AOk ar → Spec Tryz.prog G 220 [StP, .d (.agg e.cs)] (stR vs ar) (outN (evM vs ar e)) (stR vs ar)
def p220_7 : Plan := (.load 0 (.take 1 (.load 2 (.take 3 (.load 4 (.one 5 (.take 6 .done)))))))
def p220_13 : Plan := (.load 0 (.take 1 (.load 2 (.take 3 (.load 4 (.one 5 (.take 6 (.take 7 .done))))))))
def p220_14 : Plan := (.load 0 (.take 1 (.load 2 (.take 3 (.load 4 (.one 5 (.take 6 (.take 7 .done))))))))
def p220_15 : Plan := (.load 0 (.take 1 (.load 2 (.take 3 (.load 4 (.one 5 (.take 6 .done)))))))
theorem eval_step (m : Nat) (ih : EvOk G m) : EvOk G (m + 1) := by
  intro vs ar e hm hsh hV hA; obtain ⟨op, n, nm, l⟩ := e; obtain ⟨R, hG⟩ : ∃ R, evM vs ar (.mk op n nm l) = R := ⟨_, rfl⟩; rw [hG]
  unfold evM at hG
  simp only [shE] at hsh; refine spec_of_awp2 TT_ok (N := 104) Tryz.func220 rfl (by rfl) (Nat.le_refl _) rfl ?_; refine rgs fun E K J O => ?_; refine O _ (aN [2, 3] rfl rfl ?_); clear O J K E; refine awp_seq ?_; refine rgs fun E K J O => ?_; refine O _ (aN [2, 3, 10] rfl rfl ?_); clear O J K E; refine awp_block ?_; refine rgs fun E K J O => ?_; refine O _ (aN [2, 3, 10, 11] rfl rfl ?_); clear O J K E; refine awp_cond2 rfl (onB_intro (fun h1 => ?_) (fun h1 => ?_))
  · refine rgs fun E K J O => ?_; show aCall _ _ _ _ _ _ _
    have sp1 := small_yes G n
    cases hr1 : smallM n with
    | none =>
      rw [hr1] at sp1; refine aP [] rfl rfl rfl sp1 rfl rfl rfl rfl ?_; refine J _ _ ?_
      try simp only [h1, hr1] at hG
      subst hG; exact ⟨[0, 1], _, rfl, rfl, rfl, rfl, rfl⟩
    | some a1 =>
      rw [hr1] at sp1; refine aR [] rfl rfl rfl sp1 rfl rfl rfl rfl ?_; refine O _ (aN [4] rfl rfl ?_); clear O J K E; refine awp_ret ?_
      try simp only [h1, hr1] at hG
      subst hG; exact ⟨_, [0, 1], _, [.d (num _)], rfl, rfl, rfl, rfl, rfl, PWs.refl _, rfl⟩
  refine rgs fun E K J O => ?_; refine O _ (aN [2, 3, 10, 16] rfl rfl ?_); clear O J K E; refine awp_cond2 rfl (onB_intro (fun h2 => ?_) (fun h2 => ?_))
  · refine rgs fun E K J O => ?_
    refine lk_vs (T := TT) (e := 3) rfl ?_; refine O _ (aN [4] rfl rfl ?_); clear O J K E; refine awp_ret ?_
    try simp only [h1, h2] at hG
    subst hG; exact ⟨_, [0, 1], _, [.d (num _)], rfl, rfl, rfl, rfl, rfl, PWs.refl _, rfl⟩
  refine rgs fun E K J O => ?_; refine O _ (aN [2, 3, 10, 23] rfl rfl ?_); clear O J K E; refine awp_cond2 rfl (onB_intro (fun h3 => ?_) (fun h3 => ?_))
  · simp only [arOf, h1, h2, h3] at hsh
    obtain ⟨⟨o1, n1, m1, l1⟩, r, rfl, hsx⟩ := sh1 hsh
    have hmx : fuE (.mk o1 n1 m1 l1) ≤ m := by simp only [fuE, fuL] at hm ⊢; omega
    refine awp_seq ?_; refine (awp_draw TT_ok mixed p220_7 [5] (fun i => Nat.beq i 2 || Nat.beq i 3) (by kernel_rfl) fun E K J O => ?_); refine And.intro (by omega) (Exists.intro _ (And.intro (exs_0 _ _) ?_))
    show aCall _ _ _ _ _ _ _
    have sp1 := ih vs ar (.mk o1 n1 m1 l1) hmx hsx hV hA
    cases hr1 : evM vs ar (.mk o1 n1 m1 l1) with
    | none =>
      rw [hr1] at sp1; refine aP [0, 1] rfl rfl rfl sp1 rfl rfl rfl rfl ?_; refine J _ _ ?_
      try simp only [h1, h2, h3, hr1] at hG
      subst hG; exact ⟨[0, 1], _, rfl, rfl, rfl, rfl, rfl⟩
    | some a1 =>
      rw [hr1] at sp1; have hn1 := ev_ar hV hA (.mk o1 n1 m1 l1) a1 hr1; refine aR [0, 1] rfl rfl rfl sp1 rfl rfl rfl rfl ?_; refine O _ (aN [2, 3, 5] rfl rfl ?_); clear O J K E; refine rgs fun E K J O => ?_; refine lk_ar (T := TT) (e := 56) rfl (fun j hj1 hj2 hj3 => ?_) (fun ha => ?_)
      · refine O _ (aN [5, 6] rfl rfl ?_); clear O J K E; refine awp_seq ?_; refine rgs fun E K J O => ?_
        refine onB_intro (fun h4 => ?_) (fun h4 => ?_)
        · refine O _ (aN [5, 6, 43] rfl rfl ?_); clear O J K E; refine awp_cond rfl ?_; refine rgn fun E K J O => ?_; refine J _ _ ?_
          try simp only [bn, h1, h2, h3, hr1, h4] at hG
          subst hG; exact ⟨[0, 1], _, rfl, rfl, rfl, rfl, rfl⟩
        have hb1 := of_decide_eq_false h4; refine Exists.intro _ (Exists.intro _ (And.intro hj2 ?_)); refine O _ (aN [5, 6, 43] rfl rfl ?_); clear O J K E; refine awp_cond2 rfl (onB_intro (fun h5 => ?_) (fun h5 => ?_))
        · refine rgn fun E K J O => ?_; refine J _ _ ?_
          try simp only [bn, h1, h2, h3, hr1, h4, h5] at hG
          subst hG; exact ⟨[0, 1], _, rfl, rfl, rfl, rfl, rfl⟩
        have hb2 := of_decide_eq_false h5; refine awp_skip ?_; refine rgs fun E K J O => ?_; refine And.intro (by omega) (Exists.intro _ (Exists.intro _ (And.intro hj2 (And.intro (by omega) ?_)))); obtain ⟨v, hv⟩ : ∃ v, (getA ar nm)[a1.toNat]? = some v := ⟨_, List.getElem?_eq_getElem (by omega)⟩; refine Exists.intro _ (Exists.intro _ (Exists.intro _ (And.intro hj2 (And.intro hv ?_)))); refine O _ (aN [4] rfl rfl ?_); clear O J K E; refine awp_ret ?_
        try simp only [bn, h1, h2, h3, hr1, h4, h5, hv] at hG
        subst hG; exact ⟨_, [0, 1], _, [.d (num _)], rfl, rfl, rfl, rfl, rfl, PWs.refl _, rfl⟩
      rw [ha] at hG; refine O _ (aN [5, 6] rfl rfl ?_); clear O J K E; refine awp_seq ?_; refine rgs fun E K J O => ?_; refine onB_intro (fun h4 => ?_) (fun h4 => ?_)
      · refine O _ (aN [5, 6, 43] rfl rfl ?_); clear O J K E; refine awp_cond rfl ?_; refine rgn fun E K J O => ?_; refine J _ _ ?_
        try simp only [bn, h1, h2, h3, hr1, h4] at hG
        subst hG; exact ⟨[0, 1], _, rfl, rfl, rfl, rfl, rfl⟩
      have hb1 := of_decide_eq_false h4; refine O _ (aN [5, 6, 43] rfl rfl ?_); clear O J K E; refine awp_cond2 rfl (onB_intro (fun h5 => ?_) (fun h5 => ?_))
      · have hzh5 : decide (a1 ≥ ((([] : List Int).length : Nat) : Int)) = true := h5
        refine rgn fun E K J O => ?_; refine J _ _ ?_
        try simp only [bn, h1, h2, h3, hr1, h4, hzh5] at hG
        subst hG; exact ⟨[0, 1], _, rfl, rfl, rfl, rfl, rfl⟩
      exact absurd (of_decide_eq_false h5) (by omega)
  refine rgs fun E K J O => ?_; refine O _ (aN [2, 3, 49] rfl rfl ?_); clear O J K E; refine awp_cond2 rfl (onB_intro (fun h4 => ?_) (fun h4 => ?_))
  · simp only [arOf, h1, h2, h3, h4] at hsh
    obtain ⟨⟨o1, n1, m1, l1⟩, r, rfl, hsx⟩ := sh1 hsh
    have hmx : fuE (.mk o1 n1 m1 l1) ≤ m := by simp only [fuE, fuL] at hm ⊢; omega
    refine awp_seq ?_; refine (awp_draw TT_ok mixed p220_13 [5] (fun i => Nat.beq i 2 || Nat.beq i 3) (by kernel_rfl) fun E K J O => ?_); refine And.intro (by omega) (Exists.intro _ (And.intro (exs_0 _ _) ?_))
    show aCall _ _ _ _ _ _ _
    have sp1 := ih vs ar (.mk o1 n1 m1 l1) hmx hsx hV hA
    cases hr1 : evM vs ar (.mk o1 n1 m1 l1) with
    | none =>
      rw [hr1] at sp1; refine aP [0, 1] rfl rfl rfl sp1 rfl rfl rfl rfl ?_; refine J _ _ ?_
      try simp only [h1, h2, h3, h4, hr1] at hG
      subst hG; exact ⟨[0, 1], _, rfl, rfl, rfl, rfl, rfl⟩
    | some a1 =>
      rw [hr1] at sp1; have hn1 := ev_ar hV hA (.mk o1 n1 m1 l1) a1 hr1; refine aR [0, 1] rfl rfl rfl sp1 rfl rfl rfl rfl ?_; refine O _ (aN [4] rfl rfl ?_); clear O J K E; refine awp_ret ?_
      try simp only [h1, h2, h3, h4, hr1] at hG
      subst hG; exact ⟨_, [0, 1], _, [.d (num _)], rfl, rfl, rfl, rfl, rfl, PWs.refl _, rfl⟩
  simp only [arOf, h1, h2, h3, h4] at hsh; obtain ⟨⟨o1, n1, m1, l1⟩, ⟨o2, n2, m2, l2⟩, r, rfl, hsx, hsy⟩ := sh2 hsh
  have hmx : fuE (.mk o1 n1 m1 l1) ≤ m := by simp only [fuE, fuL] at hm ⊢; omega
  have hmy : fuE (.mk o2 n2 m2 l2) ≤ m := by simp only [fuE, fuL] at hm ⊢; omega
  refine awp_skip ?_; refine awp_seq ?_; refine (awp_draw TT_ok mixed p220_14 [5] (fun i => Nat.beq i 2 || Nat.beq i 3) (by kernel_rfl) fun E K J O => ?_); refine And.intro (by omega) (Exists.intro _ (And.intro (exs_0 _ _) ?_))
  show aCall _ _ _ _ _ _ _
  have sp1 := ih vs ar (.mk o1 n1 m1 l1) hmx hsx hV hA
  cases hr1 : evM vs ar (.mk o1 n1 m1 l1) with
  | none =>
    rw [hr1] at sp1; refine aP [0, 1] rfl rfl rfl sp1 rfl rfl rfl rfl ?_; refine J _ _ ?_
    try simp only [h1, h2, h3, h4, hr1] at hG
    subst hG; exact ⟨[0, 1], _, rfl, rfl, rfl, rfl, rfl⟩
  | some a1 =>
    rw [hr1] at sp1; have hn1 := ev_ar hV hA (.mk o1 n1 m1 l1) a1 hr1; refine aR [0, 1] rfl rfl rfl sp1 rfl rfl rfl rfl ?_; refine O _ (aN [2, 3, 7] rfl rfl ?_); clear O J K E; refine awp_seq ?_; refine (awp_draw TT_ok mixed p220_15 [5] (fun i => Nat.beq i 2 || Nat.beq i 3) (by kernel_rfl) fun E K J O => ?_); refine And.intro (by omega) (Exists.intro _ (And.intro (exs_1 _ _ _) ?_))
    show aCall _ _ _ _ _ _ _
    have sp2 := ih vs ar (.mk o2 n2 m2 l2) hmy hsy hV hA
    cases hr2 : evM vs ar (.mk o2 n2 m2 l2) with
    | none =>
      rw [hr2] at sp2; refine aP [0, 1] rfl rfl rfl sp2 rfl rfl rfl rfl ?_; refine J _ _ ?_
      try simp only [h1, h2, h3, h4, hr1, hr2] at hG
      subst hG; exact ⟨[0, 1], _, rfl, rfl, rfl, rfl, rfl⟩
    | some a2 =>
      rw [hr2] at sp2; have hn2 := ev_ar hV hA (.mk o2 n2 m2 l2) a2 hr2; refine aR [0, 1] rfl rfl rfl sp2 rfl rfl rfl rfl ?_; refine O _ (aN [3, 7, 8] rfl rfl ?_); clear O J K E; refine awp_seq ?_; refine rgs fun E K J O => ?_; refine O _ (aN [3, 7, 8, 71] rfl rfl ?_); clear O J K E; refine awp_block ?_; refine rgs fun E K J O => ?_; refine O _ (aN [3, 7, 8, 71, 72] rfl rfl ?_); clear O J K E; refine awp_cond2 rfl (onB_intro (fun h5 => ?_) (fun h5 => ?_))
      · refine rgs fun E K J O => ?_; show aCall _ _ _ _ _ _ _
        have sp3 := small_yes G (IntKind.i64.wrap (a1 + a2))
        cases hr3 : smallM (IntKind.i64.wrap (a1 + a2)) with
        | none =>
          rw [hr3] at sp3; refine aP [] rfl rfl rfl sp3 rfl rfl rfl rfl ?_; refine J _ _ ?_
          try simp only [h1, h2, h3, h4, hr1, hr2, h5, hr3] at hG
          subst hG; exact ⟨[0, 1], _, rfl, rfl, rfl, rfl, rfl⟩
        | some a3 =>
          rw [hr3] at sp3; refine aR [] rfl rfl rfl sp3 rfl rfl rfl rfl ?_; refine O _ (aN [4] rfl rfl ?_); clear O J K E; refine awp_ret ?_
          try simp only [h1, h2, h3, h4, hr1, hr2, h5, hr3] at hG
          subst hG; exact ⟨_, [0, 1], _, [.d (num _)], rfl, rfl, rfl, rfl, rfl, PWs.refl _, rfl⟩
      refine rgs fun E K J O => ?_; refine O _ (aN [3, 7, 8, 71, 78] rfl rfl ?_); clear O J K E; refine awp_cond2 rfl (onB_intro (fun h6 => ?_) (fun h6 => ?_))
      · refine rgs fun E K J O => ?_; show aCall _ _ _ _ _ _ _
        have sp3 := small_yes G (IntKind.i64.wrap (a1 - a2))
        cases hr3 : smallM (IntKind.i64.wrap (a1 - a2)) with
        | none =>
          rw [hr3] at sp3; refine aP [] rfl rfl rfl sp3 rfl rfl rfl rfl ?_; refine J _ _ ?_
          try simp only [h1, h2, h3, h4, hr1, hr2, h5, h6, hr3] at hG
          subst hG; exact ⟨[0, 1], _, rfl, rfl, rfl, rfl, rfl⟩
        | some a3 =>
          rw [hr3] at sp3; refine aR [] rfl rfl rfl sp3 rfl rfl rfl rfl ?_; refine O _ (aN [4] rfl rfl ?_); clear O J K E; refine awp_ret ?_
          try simp only [h1, h2, h3, h4, hr1, hr2, h5, h6, hr3] at hG
          subst hG; exact ⟨_, [0, 1], _, [.d (num _)], rfl, rfl, rfl, rfl, rfl, PWs.refl _, rfl⟩
      refine rgs fun E K J O => ?_; refine O _ (aN [3, 7, 8, 84] rfl rfl ?_); clear O J K E; refine awp_cond2 rfl (onB_intro (fun h7 => ?_) (fun h7 => ?_))
      · refine rgs fun E K J O => ?_; show aCall _ _ _ _ _ _ _
        have spp := product_spec G a1 a2 hn1
        cases hrp : prodM a1 a2 with
        | none =>
          rw [hrp] at spp; refine aR [] rfl rfl rfl spp rfl rfl rfl rfl ?_
          show aCall _ _ _ _ _ _ _
          refine aP [] rfl rfl rfl (small_no G 0) rfl rfl rfl rfl ?_; refine J _ _ ?_
          try simp only [h1, h2, h3, h4, hr1, hr2, h5, h6, h7, hrp] at hG
          subst hG; exact ⟨[0, 1], _, rfl, rfl, rfl, rfl, rfl⟩
        | some cc =>
          rw [hrp] at spp; refine aR [] rfl rfl rfl spp rfl rfl rfl rfl ?_
          show aCall _ _ _ _ _ _ _
          have sp3 := small_yes G cc
          cases hr3 : smallM cc with
          | none =>
            rw [hr3] at sp3; refine aP [] rfl rfl rfl sp3 rfl rfl rfl rfl ?_; refine J _ _ ?_
            try simp only [h1, h2, h3, h4, hr1, hr2, h5, h6, h7, hrp, hr3] at hG
            subst hG; exact ⟨[0, 1], _, rfl, rfl, rfl, rfl, rfl⟩
          | some a3 =>
            rw [hr3] at sp3; refine aR [] rfl rfl rfl sp3 rfl rfl rfl rfl ?_; refine O _ (aN [4] rfl rfl ?_); clear O J K E; refine awp_ret ?_
            try simp only [h1, h2, h3, h4, hr1, hr2, h5, h6, h7, hrp, hr3] at hG
            subst hG; exact ⟨_, [0, 1], _, [.d (num _)], rfl, rfl, rfl, rfl, rfl, PWs.refl _, rfl⟩
      refine awp_skip ?_; refine awp_seq ?_; refine rgs fun E K J O => ?_; refine O _ (aN [3, 7, 8, 93] rfl rfl ?_); clear O J K E; refine awp_cond2 rfl (onB_intro (fun h8 => ?_) (fun h8 => ?_))
      · refine rgn fun E K J O => ?_; refine J _ _ ?_
        try simp only [h1, h2, h3, h4, hr1, hr2, h5, h6, h7, h8] at hG
        subst hG; exact ⟨[0, 1], _, rfl, rfl, rfl, rfl, rfl⟩
      have hnz := neq0 h8; refine awp_skip ?_; refine awp_seq ?_; refine rgs fun E K J O => ?_; refine O _ (aN [7, 8, 97] rfl rfl ?_); clear O J K E; refine awp_cond2 rfl (onB_intro (fun h9 => ?_) (fun h9 => ?_))
      · refine rgs fun E K J O => ?_
        refine And.intro hnz ?_; refine O _ (aN [4] rfl rfl ?_); clear O J K E; refine awp_ret ?_
        try simp only [h1, h2, h3, h4, hr1, hr2, h5, h6, h7, h8, h9] at hG
        subst hG; exact ⟨_, [0, 1], _, [.d (num _)], rfl, rfl, rfl, rfl, rfl, PWs.refl _, rfl⟩
      refine awp_skip ?_; refine rgs fun E K J O => ?_; refine And.intro hnz ?_; refine O _ (aN [4] rfl rfl ?_); clear O J K E; refine awp_ret ?_
      try simp only [h1, h2, h3, h4, hr1, hr2, h5, h6, h7, h8, h9] at hG
      subst hG; exact ⟨_, [0, 1], _, [.d (num _)], rfl, rfl, rfl, rfl, rfl, PWs.refl _, rfl⟩
theorem eval_spec : ∀ m : Nat, EvOk G m
  | 0 => fun vs ar e hm => by
    obtain ⟨op, n, nm, l⟩ := e; simp only [fuE] at hm; omega
  | m + 1 => eval_step G m (eval_spec m)
end
end Go.Abs
end
section
namespace Go.Abs
open Go Go.Proofs
attribute [local irreducible] aCall AWp Sub Spec
def outB : Option Bool → Out
 | some n => .ret (.d (.s (.bool n)))
 | none => .pan wrongP
def cRow (o : Option Bool) (r : Option Bool) : Option Bool := match o with
 | none => none
 | some true => some true
 | some false => r
theorem condM_cons (vs : List (ByteArray × Int)) (ar : List (ByteArray × List Int)) (r : List Ts) (c : List (List Ts)) : condM vs ar (r :: c) = cRow (rowM vs ar r) (condM vs ar c) := by
 simp only [condM, cRow]
 rfl
def cTs (x y : Option Int) (rel : ByteArray) (r : Option Bool) : Option Bool := match x with
 | none => none
 | some a => match y with
  | none => none
  | some b => match holdsM a rel b with
   | true => r
   | false => some false
theorem rowM_cons (vs : List (ByteArray × Int)) (ar : List (ByteArray × List Int)) (t : Ts) (c : List Ts) : rowM vs ar (t :: c) = cTs (evM vs ar t.a) (evM vs ar t.b) t.rel (rowM vs ar c) := by
 simp only [rowM, cTs]
 rfl
theorem cnd_l (l : List (List Ts)) : (cnd l).length = l.length := by simp [cnd]
theorem tss_l (l : List Ts) : (tss l).length = l.length := by simp [tss]
section
variable (G : Glob)
def p221_8 : Plan := (.take 0 (.take 1 (.load 2 (.load 3 (.take 4 (.load 5 (.one 6 (.one 7 (.take 8 .done)))))))))
theorem cond_spec (vs : List (ByteArray × Int)) (ar : List (ByteArray × List Int)) (c : List (List Ts)) (hsh : shC c = true) (hw : wtC c ≤ 1000000000) (hV : VOk vs) (hA : AOk ar) : Spec Tryz.prog G 221 [StP, .d (.sl 1 (cnd c))] (stR vs ar) (outB (condM vs ar c)) (stR vs ar) := by
 have hn : c.length ≤ 1073741824 := by have := wtC_len c; omega
 obtain ⟨R, hG⟩ : ∃ R, condM vs ar c = R := ⟨_, rfl⟩; rw [hG]; refine spec_of_awp2 TT_ok (N := 37) Tryz.func221 rfl (by rfl) (Nat.le_refl _) rfl ?_; refine rgs fun E K J O => ?_; refine O _ (aN [1, 2] rfl rfl ?_); clear O J K E; refine awp_scope ?_; refine awp_seq ?_; refine awp_label ?_; refine awp_seq ?_; refine rgs fun E K J O => ?_; refine O _ (aN [2, 10, 11, 12] rfl rfl ?_); clear O J K E; refine awp_block ?_; refine awp_loop (fun k Y => ∃ (d1 e1 : List (List Ts)) , k = e1.length ∧ c = d1 ++ e1 ∧ condM vs ar e1 = R ∧ shC e1 = true ∧ wtC e1 ≤ 1000000000 ∧ Y = ⟨[(2, .box 2 0), (10, .d (.sl 1 (cnd c))), (11, .d (num (cnd c).length)), (12, .d (num d1.length))], [.map 185 (vsL vs), .amap 186 false ar, .box 188 [.acc 0, .am 1 0]]⟩) (c.length) (⟨[], c, rfl, rfl, hG, hsh, hw, rfl⟩) ?_; clear hG; rintro k Y ⟨d1, e1, rfl, hl1, hG, hz1_0, hz1_1, rfl⟩
 have hll1 : (cnd c).length = d1.length + e1.length := by rw [cnd_l, hl1, List.length_append]
 have hdl1 : d1.length + e1.length ≤ 1073741824 := by rw [hl1, List.length_append] at hn; exact hn
 refine rgs fun E K J O => ?_; refine O _ (aN [2, 10, 11, 12, 13] rfl rfl ?_); clear O J K E; refine awp_seq ?_; refine awp_cond2 rfl (onB_intro (fun h1 => ?_) (fun h1 => ?_))
 ·have h1' := of_decide_eq_true h1
  rw [hll1] at h1'
  cases e1 with
  | nil => simp only [List.length_nil] at h1'; omega
  | cons x e1b =>
  subst hl1; simp only [List.length_cons] at hdl1; simp only [condM_cons] at hG; simp only [shC, Bool.and_eq_true] at hz1_0; simp only [wtC] at hz1_1; have hwx := wtR_len x; refine awp_skip ?_; refine awp_seq ?_; refine awp_block ?_; refine rgs fun E K J O => ?_; refine And.intro (by omega) (Exists.intro _ (And.intro (cnd_at rfl) ?_)); refine O _ (aN [2, 6, 10, 11, 12] rfl rfl ?_); clear O J K E; refine awp_seq ?_; refine rgs fun E K J O => ?_; refine O _ (aN [2, 10, 11, 12, 16, 17, 18] rfl rfl ?_); clear O J K E; refine awp_block ?_
  have hnx : x.length ≤ 1073741824 := by omega
  refine awp_loop (fun k Y => ∃ (d2 e2 : List Ts) , k = e2.length ∧ x = d2 ++ e2 ∧ cRow (rowM vs ar e2) (condM vs ar e1b) = R ∧ shR e2 = true ∧ wtR e2 ≤ 1000000000 ∧ Y = ⟨[(2, .box 2 0), (10, .d (.sl 1 (cnd (d1 ++ x :: e1b)))), (11, .d (num (cnd (d1 ++ x :: e1b)).length)), (12, .d (num d1.length)), (16, .d (.sl 9 (tss x))), (17, .d (num (tss x).length)), (18, .d (num d2.length))], [.map 185 (vsL vs), .amap 186 false ar, .box 188 [.acc 0, .am 1 0]]⟩) (x.length) (⟨[], x, rfl, rfl, hG, hz1_0.1, (by omega), rfl⟩) ?_; clear hG; rintro k Y ⟨d2, e2, rfl, hl2, hG, hz2_0, hz2_1, rfl⟩
  have hll2 : (tss x).length = d2.length + e2.length := by rw [tss_l, hl2, List.length_append]
  have hdl2 : d2.length + e2.length ≤ 1073741824 := by rw [hl2, List.length_append] at hnx; exact hnx
  refine rgs fun E K J O => ?_; refine O _ (aN [2, 10, 11, 12, 16, 17, 18, 19] rfl rfl ?_); clear O J K E; refine awp_seq ?_; refine awp_cond2 rfl (onB_intro (fun h2 => ?_) (fun h2 => ?_))
  ·have h2' := of_decide_eq_true h2
   rw [hll2] at h2'
   cases e2 with
   | nil => simp only [List.length_nil] at h2'; omega
   | cons y e2b =>
   obtain ⟨⟨o1, n1, m1, l1⟩, rel, ⟨o2, n2, m2, l2⟩⟩ := y; subst hl2; simp only [List.length_cons] at hdl2; simp only [rowM_cons] at hG; simp only [shR, shT, Bool.and_eq_true] at hz2_0; simp only [wtR] at hz2_1; refine awp_skip ?_; refine awp_seq ?_; refine awp_block ?_; refine rgs fun E K J O => ?_; refine And.intro (by omega) (Exists.intro _ (And.intro (tss_at rfl) ?_)); refine O _ (aN [2, 8, 10, 11, 12, 16, 17, 18] rfl rfl ?_); clear O J K E; refine rgs fun E K J O => ?_; show aCall _ _ _ _ _ _ _; have sp1 := eval_spec G _ vs ar (.mk o1 n1 m1 l1) (Nat.le_refl _) hz2_0.1.1 hV hA
   cases hr1 : evM vs ar (.mk o1 n1 m1 l1) with
   | none =>
    rw [hr1] at sp1; refine aP [0, 1] rfl rfl rfl sp1 rfl rfl rfl rfl ?_; refine J _ _ ?_
    try simp only [hr1, cRow, cTs] at hG
    subst hG; exact ⟨[0, 1], _, rfl, rfl, rfl, rfl, rfl⟩
   | some a1 =>
    rw [hr1] at sp1; refine aR [0, 1] rfl rfl rfl sp1 rfl rfl rfl rfl ?_; refine O _ (aN [2, 8, 9, 10, 11, 12, 16, 17, 18] rfl rfl ?_); clear O J K E; refine awp_seq ?_; refine (awp_draw TT_ok mixed p221_8 [7] (fun i => Nat.beq i 2 || Nat.beq i 3) (by kernel_rfl) fun E K J O => ?_)
    show aCall _ _ _ _ _ _ _
    have sp2 := eval_spec G _ vs ar (.mk o2 n2 m2 l2) (Nat.le_refl _) hz2_0.1.2 hV hA
    cases hr2 : evM vs ar (.mk o2 n2 m2 l2) with
    | none =>
     rw [hr2] at sp2; refine aP [0, 1] rfl rfl rfl sp2 rfl rfl rfl rfl ?_; refine J _ _ ?_
     try simp only [hr1, hr2, cRow, cTs] at hG
     subst hG; exact ⟨[0, 1], _, rfl, rfl, rfl, rfl, rfl⟩
    | some a2 =>
     rw [hr2] at sp2; refine aR [0, 1] rfl rfl rfl sp2 rfl rfl rfl rfl ?_
     show aCall _ _ _ _ _ _ _
     refine aR [] rfl rfl rfl (holds_spec G a1 rel a2) rfl rfl rfl rfl ?_; refine O _ (aN [2, 10, 11, 12, 16, 17, 18, 34] rfl rfl ?_); clear O J K E; refine awp_cond2 rfl (onB_intro (fun h3 => ?_) (fun h3 => ?_))
     ·have hhh3 : holdsM a1 rel a2 = false := by simpa using h3
      refine awp_exit ?_; refine awp_norm [2, 10, 11, 12] rfl rfl ?_; refine rgn fun E K J O => ?_; refine O _ ?_; clear O J K E
      try simp only [hr1, hr2, hhh3, cRow, cTs] at hG
      exact ⟨_, Nat.lt_succ_self _, _, sub_pick (L := [0, 1, 2]) (slots := [2, 10, 11, 12]) rfl rfl rfl rfl rfl, d1 ++ [d2 ++ ⟨.mk o1 n1 m1 l1, rel, .mk o2 n2 m2 l2⟩ :: e2b], e1b, rfl, by simp, hG, hz1_0.2, by omega, by rw [List.length_append, wrapId (by omega) (by omega)]; rfl⟩
     have hhh3 : holdsM a1 rel a2 = true := by simpa using h3
     refine awp_skip ?_; refine rgn fun E K J O => ?_; refine O _ ?_; clear O J K E
     try simp only [hr1, hr2, hhh3, cTs] at hG
     exact ⟨_, Nat.lt_succ_self _, _, sub_pick (L := [0, 1, 2]) (slots := [2, 10, 11, 12, 16, 17, 18]) rfl rfl rfl rfl rfl, d2 ++ [⟨.mk o1 n1 m1 l1, rel, .mk o2 n2 m2 l2⟩], e2b, rfl, by simp, hG, hz2_0.2, by omega, by rw [List.length_append, wrapId (by omega) (by omega)]; rfl⟩
  have h2' := of_decide_eq_false h2; rw [hll2] at h2'; obtain rfl : e2 = [] := List.eq_nil_of_length_eq_zero (by omega); simp only [rowM] at hG; refine awp_exit ?_; refine awp_norm [] rfl rfl ?_; refine rgs fun E K J O => ?_; refine O _ (aN [4] rfl rfl ?_); clear O J K E; refine awp_ret ?_
  try simp only [cRow] at hG
  subst hG; exact ⟨_, [0, 1], _, [.d (.s (.bool _))], rfl, rfl, rfl, rfl, rfl, PWs.refl _, rfl⟩
 have h1' := of_decide_eq_false h1; rw [hll1] at h1'; obtain rfl : e1 = [] := List.eq_nil_of_length_eq_zero (by omega); simp only [condM] at hG; refine awp_exit ?_; refine awp_norm [] rfl rfl ?_; refine rgs fun E K J O => ?_; refine O _ (aN [4] rfl rfl ?_); clear O J K E; refine awp_ret ?_
 try simp only [bn, h1, cRow, cTs, rowM, condM] at hG
 subst hG; exact ⟨_, [0, 1], _, [.d (.s (.bool _))], rfl, rfl, rfl, rfl, rfl, PWs.refl _, rfl⟩
end
end Go.Abs
end
section
namespace Go.Abs
open Go Go.Proofs
attribute [local irreducible] aCall AWp Sub Spec
/-- A state of a run that may be. -/
structure SOk (F : Int) (S : MS) : Prop where
  v : VOk S.vs
  a : AOk S.ar
  i : ∀ n, n ∈ S.inp → sml n
  s0 : 0 ≤ S.steps
  sF : S.steps ≤ F
def Pr (F : Int) (a : MO) : Prop := ∀ S, a = .ok S → SOk F S
theorem pr_ok {F : Int} {S : MS} (h : SOk F S) : Pr F (.ok S) := fun S1 e => by cases e; exact h
theorem pr_stop {F : Int} {k : ByteArray} {S : MS} : Pr F (.stop k S) := fun _ e => nomatch e
theorem pr_out {F : Int} : Pr F .out := fun _ e => nomatch e
theorem pr_bind {F : Int} {a : MO} {f : MS → MO} (h : Pr F a) (k : ∀ S1, SOk F S1 → Pr F (f S1)) : Pr F (a.bind f) := by
  cases a with
  | out => exact pr_out
  | stop q S => exact pr_stop
  | ok S => exact k S (h S rfl)
theorem pr_ev {F : Int} {S : MS} {e : Ex} {f : Int → MO} (hS : SOk F S) (h : ∀ n, sml n → Pr F (f n)) : Pr F (evS S e f) := by
  unfold evS
  split
  · exact pr_stop
  rename_i n hn; exact h n (ev_ar hS.v hS.a e n hn)
theorem pr_cd {F : Int} {S : MS} {c : List (List Ts)} {f : Bool → MO} (h : ∀ n, Pr F (f n)) : Pr F (cdS S c f) := by
  unfold cdS
  split
  · exact pr_stop
  exact h _
theorem pr_prm {F : Int} : ∀ (l : List ByteArray) (es : List Ex) (S : MS), SOk F S → Pr F (prmM l es S)
  | [], _, _, hS => pr_ok hS
  | _ :: _, [], _, _ => pr_stop
  | v :: r, e :: l, S, hS => by
    simp only [prmM]; exact pr_ev hS fun n hn => pr_prm r l { S with vs := putV S.vs v n } ⟨putV_sml hS.v hn, hS.a, hS.i, hS.s0, hS.sF⟩
theorem pr_step {F : Int} {S : MS} (hS : SOk F S) : Pr F (stepM F S) := by
  intro S1 h; obtain ⟨q1, q2⟩ := step_ok hS.sF h
  unfold stepM at h
  split at h
  · cases h
  simp only [MO.ok.injEq] at h; subst h; exact ⟨hS.v, hS.a, hS.i, by have := hS.s0; show 0 ≤ S.steps + 1; omega, q2⟩
theorem pr_all (ps : List Pc) (F : Int) : ∀ n : Nat, (∀ l S, SOk F S → Pr F (blkM ps F n l S)) ∧ (∀ s S, SOk F S → Pr F (stM ps F n s S)) ∧ (∀ c l S, SOk F S → Pr F (whM ps F n c l S))
  | 0 => ⟨fun l S _ => by simp only [blkM]; exact pr_out, fun s S _ => by simp only [stM]; exact pr_out, fun c l S _ => by simp only [whM]; exact pr_out⟩
  | n + 1 => by
    obtain ⟨h1, h2, h3⟩ := pr_all ps F n; refine ⟨fun l S hS => ?_, fun s S hS => ?_, fun c l S hS => ?_⟩
    · cases l with
      | nil => simp only [blkM]; exact pr_ok hS
      | cons s r =>
        simp only [blkM]; exact pr_bind (pr_bind (pr_step hS) fun S1 q => h2 s S1 q) fun S2 q => h1 r S2 q
    · obtain ⟨kind, name, proc, args, cond, body, els⟩ := s
      simp only [stM]
      repeat' split
      all_goals first
        | exact pr_ok hS
        | exact pr_stop
        | exact pr_ev hS fun n hn => pr_ok ⟨putV_sml hS.v hn, hS.a, hS.i, hS.s0, hS.sF⟩
        | exact pr_ev hS fun n hn => pr_ev hS fun m hm => by split <;> first | exact pr_ok ⟨hS.v, setA_sml hS.a hm, hS.i, hS.s0, hS.sF⟩ | exact pr_stop
        | exact h3 _ _ _ hS
        | exact pr_cd fun b => by cases b <;> first | exact h1 _ _ hS | exact pr_ok hS | exact pr_stop
        | exact pr_bind (pr_bind (pr_prm _ _ _ hS) fun S1 q => h1 _ S1 q) fun S2 q => pr_ev q fun n hn => pr_ok ⟨putV_sml q.v hn, q.a, q.i, q.s0, q.sF⟩
        | (rename_i hi
           have hi := hS.i
           simp_all only [List.mem_cons]
           exact pr_ok ⟨putV_sml hS.v (hi _ (.inl rfl)), hS.a, fun n hn => hi n (.inr hn), hS.s0, hS.sF⟩)
    simp only [whM]; refine pr_cd fun b => ?_
    cases b with
    | false => exact pr_ok hS
    | true => exact pr_bind (pr_bind (h1 _ _ hS) fun S1 q => pr_step q) fun S2 q => h3 c l S2 q
def rnR (ps : List Pc) (F : Int) (S : MS) : List Row := [.box 191 [.acc 1, .am 2 0, .acc 3, .d (.sl 1 (numsD S.inp)), .d (num F), .d (num S.steps)], .map 185 (vsL S.vs), .amap 186 false S.ar, .map 189 (prL ps)]
def endP (k : ByteArray) : PV := .d (.ifc 273 (str k))
def outM : MO → Out
  | .stop k _ => .pan (endP k)
  | _ => .ret (.tup [])
def rowsM (ps : List Pc) (F : Int) : MO → List Row
  | .ok S => rnR ps F S
  | .stop _ S => rnR ps F S
  | .out => []
def MSpec (G : Glob) (f : FuncId) (args : List PV) (ps : List Pc) (F : Int) (S : MS) (a : MO) : Prop := a ≠ .out → Spec Tryz.prog G f args (rnR ps F S) (outM a) (rowsM ps F a)
theorem exs_get : ∀ {l : List Ex} {i : Nat} {y : Ex}, l[i]? = some y → (exs l)[((i : Nat) : Int).toNat]? = some y.cs
  | [], i, y, h => by cases h
  | x :: r, 0, y, h => by
    simp only [List.getElem?_cons_zero, Option.some.injEq] at h; subst h
    rfl
  | x :: r, i + 1, y, h => by
    have := exs_get (l := r) (i := i) (y := y) (by simpa using h); rw [Int.toNat_natCast] at this ⊢
    simpa only [exs, List.getElem?_cons_succ] using this
theorem shL_get : ∀ {l : List Ex} {i : Nat} {y : Ex}, shL l = true → l[i]? = some y → shE y = true
  | [], i, y, _, h => by cases h
  | x :: r, 0, y, hs, h => by
    simp only [List.getElem?_cons_zero, Option.some.injEq] at h; subst h; simp only [shL, Bool.and_eq_true] at hs; exact hs.1
  | x :: r, i + 1, y, hs, h => by
    simp only [shL, Bool.and_eq_true] at hs; exact shL_get (i := i) hs.2 (by simpa using h)
theorem drop_at {l : List Ex} {i : Nat} {y : Ex} (h : l[i]? = some y) : l.drop i = y :: l.drop (i + 1) := by
  obtain ⟨h1, h2⟩ := List.getElem?_eq_some_iff.1 h; rw [List.drop_eq_getElem_cons h1, h2]
theorem nums_l (l : List Int) : (numsD l).length = l.length := by simp [numsD]
theorem nums_nil {l : List Int} (h : (((numsD l).length : Int) == 0) = true) : l = [] := by
  have := eq_of_beq h; rw [nums_l] at this; exact List.eq_nil_of_length_eq_zero (by omega)
theorem nums_cons {l : List Int} (h : (((numsD l).length : Int) == 0) = false) : ∃ q iq, l = q :: iq := by
  cases l with
  | nil => cases h
  | cons q iq => exact ⟨q, iq, rfl⟩
/-- What is asked of procedures. -/
def PcOk (ps : List Pc) : Prop := ∀ f, f ∈ ps → wfB ps f.body = true ∧ shE f.ret = true ∧ wtB f.body ≤ 1000000000 ∧ f.params.length ≤ 1000000000
section
variable (G : Glob) (ps : List Pc) (F : Int)
def p219_0 : Plan := (.take 0 (.take 1 (.take 2 (.load 3 (.take 4 (.take 5 (.take 6 (.load 7 (.take 8 .done)))))))))
theorem step_yes (vs : List (ByteArray × Int)) (ar : List (ByteArray × List Int)) (inp : List Int) (st : Int) (hst : (st == F) = true) : Spec Tryz.prog G 219 [.box 0 0] (rnR ps F ⟨vs, ar, inp, st⟩) (.pan (endP wTired)) (rnR ps F ⟨vs, ar, inp, st⟩) := by
  refine spec_of_awp2 TT_ok (N := 19) Tryz.func219 rfl (by rfl) (Nat.le_refl _) rfl ?_; refine awp_seq ?_; refine awp_seq ?_; refine (awp_draw TT_ok mixed p219_0 [] (fun i => Nat.beq i 0) (by kernel_rfl) fun E K J O => ?_); refine O _ (aN [0, 10] rfl rfl ?_); clear O J K E; refine awp_cond2 rfl (onB_intro (fun h1 => ?_) (fun h1 => ?_))
  · refine rgn fun E K J O => ?_; refine J _ _ ?_
    exact ⟨[0, 1, 2, 3], _, rfl, rfl, rfl, rfl, rfl⟩
  rw [hst] at h1; cases h1
theorem step_no (vs : List (ByteArray × Int)) (ar : List (ByteArray × List Int)) (inp : List Int) (st : Int) (hst : (st == F) = false) (h0 : 0 ≤ st) (h1 : st ≤ 1000000000000) : Spec Tryz.prog G 219 [.box 0 0] [.box 191 [.acc 1, .am 2 0, .acc 3, .d (.sl 1 (numsD inp)), .d (num F), .d (num st)], .map 185 (vsL vs), .amap 186 false ar, .map 189 (prL ps)] (.ret (.tup [])) [.box 191 [.acc 1, .am 2 0, .acc 3, .d (.sl 1 (numsD inp)), .d (num F), .d (num (st + 1))], .map 185 (vsL vs), .amap 186 false ar, .map 189 (prL ps)] := by
  refine spec_of_awp2 TT_ok (N := 19) Tryz.func219 rfl (by rfl) (Nat.le_refl _) rfl ?_; refine awp_seq ?_; refine awp_seq ?_; refine (awp_draw TT_ok mixed p219_0 [] (fun i => Nat.beq i 0) (by kernel_rfl) fun E K J O => ?_); refine O _ (aN [0, 10] rfl rfl ?_); clear O J K E; refine awp_cond2 rfl (onB_intro (fun h1 => ?_) (fun h1 => ?_))
  · rw [hst] at h1
    cases h1
  refine awp_skip ?_; refine rgn fun E K J O => ?_; refine O _ ?_; clear O J K E; rw [wrapId (by omega) (by omega)]; exact ⟨_, [0, 1, 2, 3], _, [], rfl, rfl, rfl, rfl, rfl, PWs.nil, rfl⟩
theorem step_spec (S : MS) (hS : SOk F S) (hF : F ≤ 1000000000000) : MSpec G 219 [.box 0 0] ps F S (stepM F S) := by
  intro _; obtain ⟨vs, ar, inp, st⟩ := S; have h0 : 0 ≤ st := hS.s0; have h1 : st ≤ F := hS.sF
  unfold stepM
  cases hst : (st == F) with
  | true => exact step_yes G ps F vs ar inp st hst
  | false => exact step_no G ps F vs ar inp st hst h0 (by omega)
def MBlk (n : Nat) : Prop := ∀ (l : List Sm) (S : MS), wfB ps l = true → wtB l ≤ 1000000000 → SOk F S → MSpec G 161 [.box 0 0, .d (.sl 7 (sms l))] ps F S (blkM ps F n l S)
def p161_6 : Plan := (.take 0 (.take 1 (.take 2 (.take 3 (.load 4 (.take 5 (.load 6 (.take 7 (.take 8 (.take 9 (.load 10 (.take 11 (.load 12 (.take 13 (.load 14 (.one 15 (.one 16 .done)))))))))))))))))
def p161_8 : Plan := (.take 0 (.take 1 (.take 2 (.load 3 (.take 4 (.load 5 (.take 6 (.load 7 (.one 8 (.take 9 .done))))))))))
def p161_9 : Plan := (.take 0 (.take 1 (.take 2 (.load 3 (.take 4 (.load 5 (.take 6 (.load 7 (.one 8 (.take 9 .done))))))))))
def p161_10 : Plan := (.take 0 (.take 1 (.take 2 (.take 3 (.take 4 (.take 5 (.take 6 (.take 7 (.load 8 (.take 9 (.load 10 (.load 11 (.take 12 (.take 13 (.take 14 .done)))))))))))))))
def p161_12 : Plan := (.take 0 (.take 1 (.take 2 (.take 3 (.load 4 (.take 5 (.load 6 (.load 7 (.take 8 (.take 9 (.take 10 (.one 11 .done))))))))))))
def p161_16 : Plan := (.take 0 (.take 1 (.take 2 (.take 3 (.load 4 (.take 5 (.load 6 (.take 7 (.take 8 (.take 9 (.take 10 (.load 11 (.take 12 (.load 13 (.take 14 (.take 15 (.take 16 (.load 17 (.take 18 (.one 19 (.take 20 (.one 21 (.take 22 (.take 23 (.one 24 .done)))))))))))))))))))))))))
def p161_18 : Plan := (.take 0 (.take 1 (.take 2 (.load 3 (.take 4 (.load 5 (.load 6 (.one 7 (.one 8 .done)))))))))
def p161_22 : Plan := (.take 0 (.take 1 (.take 2 (.take 3 (.load 4 (.take 5 (.take 6 (.take 7 (.take 8 (.load 9 (.take 10 (.load 11 (.take 12 (.take 13 (.load 14 (.one 15 (.one 16 .done)))))))))))))))))
def p161_25 : Plan := (.take 0 (.take 1 (.take 2 (.take 3 (.load 4 (.take 5 (.load 6 (.take 7 (.take 8 (.take 9 (.load 10 (.take 11 (.load 12 (.one 13 (.one 14 .done)))))))))))))))
def p161_27 : Plan := (.take 0 (.take 1 (.take 2 (.load 3 (.take 4 (.load 5 (.one 6 .done)))))))
def p161_31 : Plan := (.take 0 (.take 1 (.take 2 (.load 3 (.take 4 (.load 5 (.one 6 .done)))))))
def p161_35 : Plan := (.take 0 (.take 1 (.take 2 (.load 3 (.take 4 (.load 5 (.one 6 (.take 7 .done))))))))
def p161_38 : Plan := (.take 0 (.take 1 (.take 2 (.load 3 (.take 4 (.load 5 (.one 6 (.take 7 .done))))))))
theorem mblk_step (hF : F ≤ 1000000000000) (hP : PcOk ps) (n : Nat) (ih : ∀ m, m ≤ n → MBlk G ps F m) : MBlk G ps F (n + 1) := by
  intro l S hwf hwt hS hne; obtain ⟨vs, ar, inp, st⟩ := S
  have hn : l.length ≤ 1073741824 := by have := wtB_len l; omega
  obtain ⟨R, hG⟩ : ∃ R, blkM ps F (n + 1) l ⟨vs, ar, inp, st⟩ = R := ⟨_, rfl⟩; rw [hG] at hne ⊢
  refine spec_of_awp2 TT_ok (N := 225) Tryz.func161 rfl (by rfl) ((by cases R <;> simp [rowsM, rnR] at hne ⊢)) rfl ?_
  refine rgs fun E K J O => ?_; refine O _ (aN [0, 11, 12, 13] rfl rfl ?_); clear O J K E; refine awp_block ?_; refine awp_loop (fun k Y => ∃ (d1 e1 : List Sm) (vs : List (ByteArray × Int)) (ar : List (ByteArray × List Int)) (inp : List Int) (st : Int) (m : Nat), k = e1.length ∧ l = d1 ++ e1 ∧ blkM ps F m e1 ⟨vs, ar, inp, st⟩ = R ∧ wfB ps e1 = true ∧ wtB e1 ≤ 1000000000 ∧ SOk F ⟨vs, ar, inp, st⟩ ∧ m ≤ n + 1 ∧ Y = ⟨[(0, .box 0 0), (11, .d (.sl 7 (sms l))), (12, .d (num (sms l).length)), (13, .d (num d1.length))], [.box 191 [.acc 1, .am 2 0, .acc 3, .d (.sl 1 (numsD inp)), .d (num F), .d (num st)], .map 185 (vsL vs), .amap 186 false ar, .map 189 (prL ps)]⟩) (l.length) (⟨[], l, vs, ar, inp, st, n + 1, rfl, rfl, hG, hwf, hwt, hS, Nat.le_refl _, rfl⟩) ?_; clear hG; rintro k Y ⟨d1, e1, vs, ar, inp, st, m, rfl, hl1, hG, hz1_0, hz1_1, hz1_2, hz1_3, rfl⟩
  have hll1 : (sms l).length = d1.length + e1.length := by rw [sms_len, hl1, List.length_append]
  have hdl1 : d1.length + e1.length ≤ 1073741824 := by rw [hl1, List.length_append] at hn; exact hn
  refine rgs fun E K J O => ?_; refine O _ (aN [0, 11, 12, 13, 14] rfl rfl ?_); clear O J K E; refine awp_seq ?_; refine awp_cond2 rfl (onB_intro (fun h1 => ?_) (fun h1 => ?_))
  · have h1' := of_decide_eq_true h1
    rw [hll1] at h1'
    cases e1 with
    | nil => simp only [List.length_nil] at h1'; omega
    | cons x e1b =>
    obtain ⟨kind, name, proc, args, cond, body, els⟩ := x; subst hl1; simp only [List.length_cons] at hdl1; obtain ⟨hk, hb, he, hr⟩ := wfB_cons hz1_0; simp only [wtB, wtS] at hz1_1
    have hkc : shC cond = true := by simp only [shK, Bool.and_eq_true] at hk; exact hk.1.2
    cases m with
    | zero => simp only [blkM] at hG; exact absurd hG.symm hne
    | succ m =>
    simp only [blkM] at hG; refine awp_skip ?_; refine awp_seq ?_; refine awp_block ?_; refine rgs fun E K J O => ?_; refine And.intro (by omega) (Exists.intro _ (And.intro (sms_at rfl) ?_)); refine O _ (aN [0, 5, 11, 12, 13] rfl rfl ?_); clear O J K E; refine rgs fun E K J O => ?_; show aCall _ _ _ _ _ _ _; have sp1 := step_spec G ps F ⟨vs, ar, inp, st⟩ hz1_2 hF
    cases hr1 : stepM F ⟨vs, ar, inp, st⟩ with
    | out =>
      try simp only [MO.bind, hr1] at hG
      exact absurd hG.symm hne
    | stop k1 T1 =>
      rw [hr1] at sp1; refine aP [0, 1, 2, 3] rfl rfl rfl (sp1 nofun) rfl rfl rfl rfl ?_; refine J _ _ ?_
      try simp only [MO.bind, hr1] at hG
      subst hG; exact ⟨[0, 1, 2, 3], _, rfl, rfl, rfl, rfl, rfl⟩
    | ok T1 =>
      rw [hr1] at sp1; have hS1 := pr_step hz1_2 _ hr1; obtain ⟨vs1, ar1, inp1, st1⟩ := T1; refine aR [0, 1, 2, 3] rfl rfl rfl (sp1 nofun) rfl rfl rfl rfl ?_
      try simp only [MO.bind, hr1] at hG
      cases m with
      | zero => simp only [stM] at hG; exact absurd hG.symm hne
      | succ m =>
      simp only [stM] at hG; refine O _ (aN [0, 5, 11, 12, 13] rfl rfl ?_); clear O J K E; refine rgs fun E K J O => ?_; refine O _ (aN [0, 5, 11, 12, 13, 20] rfl rfl ?_); clear O J K E; refine awp_block ?_; refine rgs fun E K J O => ?_; refine O _ (aN [0, 5, 11, 12, 13, 20, 21] rfl rfl ?_); clear O J K E; refine awp_cond2 rfl (onB_intro (fun h2 => ?_) (fun h2 => ?_))
      · simp only [shK, h2, Bool.and_eq_true] at hk
        obtain ⟨⟨o1, n1, m1, l1⟩, r, rfl, hsx⟩ := sh1 (by rw [hk.2, hk.1.1]; rfl); simp only [h2] at hG; refine (awp_draw TT_ok mixed p161_6 [16] (fun i => Nat.beq i 0 || Nat.beq i 4) (by kernel_rfl) fun E K J O => ?_); refine And.intro (by omega) (Exists.intro _ (And.intro (exs_0 _ _) ?_))
        show aCall _ _ _ _ _ _ _
        have sp2 := eval_spec G _ vs1 ar1 (.mk o1 n1 m1 l1) (Nat.le_refl _) hsx hS1.v hS1.a
        cases hr2 : evM vs1 ar1 (.mk o1 n1 m1 l1) with
        | none =>
          rw [hr2] at sp2; refine aP [1, 2] rfl rfl rfl sp2 rfl rfl rfl rfl ?_; refine J _ _ ?_
          try simp only [evS, hr2] at hG
          subst hG; exact ⟨[0, 1, 2, 3], _, rfl, rfl, rfl, rfl, rfl⟩
        | some a2 =>
          rw [hr2] at sp2; have hn2 := ev_ar hS1.v hS1.a (.mk o1 n1 m1 l1) a2 hr2; refine aR [1, 2] rfl rfl rfl sp2 rfl rfl rfl rfl ?_; refine Exists.intro _ (And.intro (vsL_put _ _ _) ?_); refine O _ (aN [0, 11, 12, 13] rfl rfl ?_); clear O J K E; refine rgn fun E K J O => ?_; refine O _ ?_; clear O J K E
          try simp only [evS, hr2] at hG
          exact ⟨_, Nat.lt_succ_self _, _, sub_pick (L := [0, 1, 2, 3]) (slots := [0, 11, 12, 13]) rfl rfl rfl rfl rfl, d1 ++ [(Sm.mk kind name proc (.mk o1 n1 m1 l1 :: r) cond body els)], e1b, (putV vs1 name a2), ar1, inp1, st1, m + 1, rfl, by simp, hG, hr, by omega, ⟨putV_sml hS1.v hn2, hS1.a, hS1.i, hS1.s0, hS1.sF⟩, by omega, by rw [List.length_append, wrapId (by omega) (by omega)]; rfl⟩
      simp only [h2] at hG; refine rgs fun E K J O => ?_; refine O _ (aN [0, 5, 11, 12, 13, 20, 39] rfl rfl ?_); clear O J K E; refine awp_cond2 rfl (onB_intro (fun h3 => ?_) (fun h3 => ?_))
      · simp only [shK, h2, h3, Bool.and_eq_true] at hk
        obtain ⟨⟨o1, n1, m1, l1⟩, ⟨o2, n2, m2, l2⟩, r, rfl, hsx, hsy⟩ := sh2 (by rw [hk.2, hk.1.1]; rfl); simp only [h3] at hG; refine awp_seq ?_; refine (awp_draw TT_ok mixed p161_8 [8] (fun i => Nat.beq i 0 || Nat.beq i 4) (by kernel_rfl) fun E K J O => ?_); refine And.intro (by omega) (Exists.intro _ (And.intro (exs_0 _ _) ?_))
        show aCall _ _ _ _ _ _ _
        have sp2 := eval_spec G _ vs1 ar1 (.mk o1 n1 m1 l1) (Nat.le_refl _) hsx hS1.v hS1.a
        cases hr2 : evM vs1 ar1 (.mk o1 n1 m1 l1) with
        | none =>
          rw [hr2] at sp2; refine aP [1, 2] rfl rfl rfl sp2 rfl rfl rfl rfl ?_; refine J _ _ ?_
          try simp only [evS, hr2] at hG
          subst hG; exact ⟨[0, 1, 2, 3], _, rfl, rfl, rfl, rfl, rfl⟩
        | some a2 =>
          rw [hr2] at sp2; have hn2 := ev_ar hS1.v hS1.a (.mk o1 n1 m1 l1) a2 hr2; refine aR [1, 2] rfl rfl rfl sp2 rfl rfl rfl rfl ?_; refine O _ (aN [0, 5, 6, 11, 12, 13] rfl rfl ?_); clear O J K E; refine awp_seq ?_; refine (awp_draw TT_ok mixed p161_9 [8] (fun i => Nat.beq i 0 || Nat.beq i 4) (by kernel_rfl) fun E K J O => ?_); refine And.intro (by omega) (Exists.intro _ (And.intro (exs_1 _ _ _) ?_))
          show aCall _ _ _ _ _ _ _
          have sp3 := eval_spec G _ vs1 ar1 (.mk o2 n2 m2 l2) (Nat.le_refl _) hsy hS1.v hS1.a
          cases hr3 : evM vs1 ar1 (.mk o2 n2 m2 l2) with
          | none =>
            rw [hr3] at sp3; refine aP [1, 2] rfl rfl rfl sp3 rfl rfl rfl rfl ?_; refine J _ _ ?_
            try simp only [evS, hr2, hr3] at hG
            subst hG; exact ⟨[0, 1, 2, 3], _, rfl, rfl, rfl, rfl, rfl⟩
          | some a3 =>
            rw [hr3] at sp3; have hn3 := ev_ar hS1.v hS1.a (.mk o2 n2 m2 l2) a3 hr3; refine aR [1, 2] rfl rfl rfl sp3 rfl rfl rfl rfl ?_; refine O _ (aN [0, 5, 6, 7, 11, 12, 13] rfl rfl ?_); clear O J K E; refine awp_seq ?_; refine awp_seq ?_; refine (awp_draw TT_ok mixed p161_10 [] (fun i => Nat.beq i 0 || Nat.beq i 2 || Nat.beq i 4) (by kernel_rfl) fun E K J O => ?_); refine onB_intro (fun h4 => ?_) (fun h4 => ?_)
            · refine O _ (aN [0, 5, 6, 7, 11, 12, 13, 73] rfl rfl ?_); clear O J K E; refine awp_cond rfl ?_; refine rgn fun E K J O => ?_; refine J _ _ ?_
              try simp only [bn, evS, hr2, hr3, h4] at hG
              subst hG; exact ⟨[0, 1, 2, 3], _, rfl, rfl, rfl, rfl, rfl⟩
            have hb1 := of_decide_eq_false h4; refine lk_ar (T := TT) (e := 56) rfl (fun j hj1 hj2 hj3 => ?_) (fun ha => ?_)
            · refine Exists.intro _ (Exists.intro _ (And.intro hj2 ?_))
              refine O _ (aN [0, 5, 6, 7, 11, 12, 13, 73] rfl rfl ?_); clear O J K E; refine awp_cond2 rfl (onB_intro (fun h5 => ?_) (fun h5 => ?_))
              · refine rgn fun E K J O => ?_; refine J _ _ ?_
                try simp only [bn, evS, hr2, hr3, h4, h5] at hG
                subst hG; exact ⟨[0, 1, 2, 3], _, rfl, rfl, rfl, rfl, rfl⟩
              have hb2 := of_decide_eq_false h5; refine awp_skip ?_; refine (awp_draw TT_ok mixed p161_12 [11] (fun i => Nat.beq i 0 || Nat.beq i 2 || Nat.beq i 4) (by kernel_rfl) fun E K J O => ?_); refine Exists.intro _ (And.intro hj1 ?_); refine And.intro (by omega) (Exists.intro _ (Exists.intro _ (And.intro hj2 (And.intro (by omega) ?_)))); refine Exists.intro _ (Exists.intro _ (And.intro hj2 (And.intro (by omega) ?_))); refine O _ (aN [0, 11, 12, 13] rfl rfl ?_); clear O J K E; rw [← hj3]; refine rgn fun E K J O => ?_; refine O _ ?_; clear O J K E
              try simp only [bn, evS, hr2, hr3, h4, h5] at hG
              exact ⟨_, Nat.lt_succ_self _, _, sub_pick (L := [0, 1, 2, 3]) (slots := [0, 11, 12, 13]) rfl rfl rfl rfl rfl, d1 ++ [(Sm.mk kind name proc (.mk o1 n1 m1 l1 :: .mk o2 n2 m2 l2 :: r) cond body els)], e1b, vs1, (setA ar1 name a2.toNat a3), inp1, st1, m + 1, rfl, by simp, hG, hr, by omega, ⟨hS1.v, setA_sml hS1.a hn3, hS1.i, hS1.s0, hS1.sF⟩, by omega, by rw [List.length_append, wrapId (by omega) (by omega)]; rfl⟩
            simp only [evS, hr2, hr3, h4, ha] at hG; refine O _ (aN [0, 5, 6, 7, 11, 12, 13, 73] rfl rfl ?_); clear O J K E; refine awp_cond2 rfl (onB_intro (fun h5 => ?_) (fun h5 => ?_))
            · have hzh5 : decide (a2 ≥ ((([] : List Int).length : Nat) : Int)) = true := h5
              refine rgn fun E K J O => ?_; refine J _ _ ?_
              try simp only [bn, hzh5] at hG
              subst hG; exact ⟨[0, 1, 2, 3], _, rfl, rfl, rfl, rfl, rfl⟩
            exact absurd (of_decide_eq_false h5) (by omega)
      simp only [h3] at hG; refine rgs fun E K J O => ?_; refine O _ (aN [0, 5, 11, 12, 13, 20, 86] rfl rfl ?_); clear O J K E; refine awp_cond2 rfl (onB_intro (fun h4 => ?_) (fun h4 => ?_))
      · simp only [h4] at hG
        refine awp_seq ?_; refine rgs fun E K J O => ?_; refine O _ (aN [0, 5, 11, 12, 13, 93] rfl rfl ?_); clear O J K E; refine awp_cond2 rfl (onB_intro (fun h5 => ?_) (fun h5 => ?_))
        · obtain rfl := nums_nil h5
          refine rgn fun E K J O => ?_; refine J _ _ ?_
          try simp only [bn] at hG
          subst hG; exact ⟨[0, 1, 2, 3], _, rfl, rfl, rfl, rfl, rfl⟩
        obtain ⟨q, iq, rfl⟩ := nums_cons h5; refine awp_skip ?_; refine (awp_draw TT_ok mixed p161_16 [21, 24] (fun i => Nat.beq i 0 || Nat.beq i 4) (by kernel_rfl) fun E K J O => ?_); refine And.intro (by omega) (Exists.intro _ (And.intro rfl ?_)); refine Exists.intro 1 (And.intro rfl (And.intro (by simp [numsD]) ?_)); refine Exists.intro _ (And.intro rfl ?_); refine Exists.intro _ (Exists.intro _ (And.intro rfl (And.intro (vsL_ent vs1 name q).1 (And.intro (vsL_ent vs1 name q).2 ?_)))); refine O _ (aN [0, 11, 12, 13] rfl rfl ?_); clear O J K E; refine rgn fun E K J O => ?_; refine O _ ?_; clear O J K E
        try simp only [bn] at hG
        exact ⟨_, Nat.lt_succ_self _, _, sub_pick (L := [0, 1, 2, 3]) (slots := [0, 11, 12, 13]) rfl rfl rfl rfl rfl, d1 ++ [(Sm.mk kind name proc args cond body els)], e1b, (putV vs1 name q), ar1, iq, st1, m + 1, rfl, by simp, hG, hr, by omega, ⟨putV_sml hS1.v (hS1.i _ (List.mem_cons_self ..)), hS1.a, fun n hn => hS1.i n (List.mem_cons_of_mem _ hn), hS1.s0, hS1.sF⟩, by omega, by rw [List.length_append, wrapId (by omega) (by omega)]; rfl⟩
      simp only [h4] at hG; refine rgs fun E K J O => ?_; refine O _ (aN [0, 5, 11, 12, 13, 20, 118] rfl rfl ?_); clear O J K E; refine awp_cond2 rfl (onB_intro (fun h5 => ?_) (fun h5 => ?_))
      · simp only [shK, h2, h3, h5, Bool.and_eq_true] at hk
        simp only [h5] at hG; obtain ⟨⟨hka, _⟩, hk⟩ := hk
        cases hfind : findP ps proc with
        | none => rw [hfind] at hk; cases hk
        | some f =>
        rw [hfind] at hk hG; have hf := hP f (List.mem_of_find?_eq_some hfind); obtain ⟨fnm, fp, fb, ⟨ro, rn, rm, rl⟩⟩ := f; have hle : fp.length ≤ args.length := Nat.le_of_ble_eq_true hk; have hnp : fp.length ≤ 1073741824 := Nat.le_trans hf.2.2.2 (by decide)
        have hget : mapGet (prL ps) proc = some (.agg (Pc.mk fnm fp fb (.mk ro rn rm rl)).cs) := by rw [prL_get, hfind]; rfl
        simp only at hG; refine awp_seq ?_; refine (awp_draw TT_ok mixed p161_18 [8] (fun i => Nat.beq i 0 || Nat.beq i 3 || Nat.beq i 4) (by kernel_rfl) fun E K J O => ?_); refine Exists.intro _ (And.intro hget ?_); refine O _ (aN [0, 5, 8, 11, 12, 13] rfl rfl ?_); clear O J K E; refine awp_seq ?_; refine rgs fun E K J O => ?_; refine O _ (aN [0, 5, 8, 11, 12, 13, 128, 129, 130] rfl rfl ?_); clear O J K E; refine awp_block ?_; refine awp_loop (fun k Y => ∃ (d2 e2 : List ByteArray) (vsp : List (ByteArray × Int)), k = e2.length ∧ fp = d2 ++ e2 ∧ ((((prmM e2 (args.drop d2.length) ⟨vsp, ar1, inp1, st1⟩).bind fun S => blkM ps F m fb S).bind fun S => evS S (.mk ro rn rm rl) fun a => .ok { S with vs := putV S.vs name a }).bind fun S => blkM ps F (m + 1) e1b S) = R ∧ SOk F ⟨vsp, ar1, inp1, st1⟩ ∧ Y = ⟨[(0, .box 0 0), (5, .box 4 0), (8, .box 5 0), (11, .d (.sl 7 (sms (d1 ++ (Sm.mk kind name proc args cond body els) :: e1b)))), (12, .d (num (sms (d1 ++ (Sm.mk kind name proc args cond body els) :: e1b)).length)), (13, .d (num d1.length)), (128, .d (.sl 1 (strs fp))), (129, .d (num (strs fp).length)), (130, .d (num d2.length))], [.box 191 [.acc 1, .am 2 0, .acc 3, .d (.sl 1 (numsD inp1)), .d (num F), .d (num st1)], .map 185 (vsL vsp), .amap 186 false ar1, .map 189 (prL ps), .box 217 ((Sm.mk kind name proc args cond body els).cs.map PV.d), .box 159 ((Pc.mk fnm fp fb (.mk ro rn rm rl)).cs.map PV.d)]⟩) (fp.length) (⟨[], fp, vs1, rfl, rfl, hG, hS1, rfl⟩) ?_; clear hG; rintro k Y ⟨d2, e2, vsp, rfl, hl2, hG, hz2_0, rfl⟩
        have hll2 : (strs fp).length = d2.length + e2.length := by rw [strs_length, hl2, List.length_append]
        have hdl2 : d2.length + e2.length ≤ 1073741824 := by rw [hl2, List.length_append] at hnp; exact hnp
        refine rgs fun E K J O => ?_; refine O _ (aN [0, 5, 8, 11, 12, 13, 128, 129, 130, 131] rfl rfl ?_); clear O J K E; refine awp_seq ?_; refine awp_cond2 rfl (onB_intro (fun h6 => ?_) (fun h6 => ?_))
        · have h6' := of_decide_eq_true h6
          rw [hll2] at h6'
          cases e2 with
          | nil => simp only [List.length_nil] at h6'; omega
          | cons v e2b =>
          subst hl2; simp only [List.length_cons, List.length_append] at hdl2 hle; obtain ⟨⟨o2, n2, m2, l2⟩, hy⟩ : ∃ y, args[d2.length]? = some y := ⟨_, List.getElem?_eq_getElem (by omega)⟩; have hsy := shL_get hka hy; rw [drop_at hy] at hG; simp only [prmM] at hG; refine awp_skip ?_; refine awp_seq ?_; refine awp_block ?_; refine rgs fun E K J O => ?_; refine And.intro (by omega) (Exists.intro _ (And.intro (str_at rfl) ?_)); refine O _ (aN [0, 5, 8, 9, 10, 11, 12, 13, 128, 129, 130] rfl rfl ?_); clear O J K E; refine (awp_draw TT_ok mixed p161_22 [16] (fun i => Nat.beq i 0 || Nat.beq i 4 || Nat.beq i 5) (by kernel_rfl) fun E K J O => ?_); refine And.intro (by omega) (Exists.intro _ (And.intro (exs_get hy) ?_))
          show aCall _ _ _ _ _ _ _
          have sp2 := eval_spec G _ vsp ar1 (.mk o2 n2 m2 l2) (Nat.le_refl _) hsy hz2_0.v hz2_0.a
          cases hr2 : evM vsp ar1 (.mk o2 n2 m2 l2) with
          | none =>
            rw [hr2] at sp2; refine aP [1, 2] rfl rfl rfl sp2 rfl rfl rfl rfl ?_; refine J _ _ ?_
            try simp only [MO.bind, evS, hr2] at hG
            subst hG; exact ⟨[0, 1, 2, 3], _, rfl, rfl, rfl, rfl, rfl⟩
          | some a2 =>
            rw [hr2] at sp2; have hn2 := ev_ar hz2_0.v hz2_0.a (.mk o2 n2 m2 l2) a2 hr2; refine aR [1, 2] rfl rfl rfl sp2 rfl rfl rfl rfl ?_; refine Exists.intro _ (And.intro (vsL_put _ _ _) ?_); refine O _ (aN [0, 5, 8, 11, 12, 13, 128, 129, 130] rfl rfl ?_); clear O J K E; refine rgn fun E K J O => ?_; refine O _ ?_; clear O J K E
            try simp only [MO.bind, evS, hr2] at hG
            exact ⟨_, Nat.lt_succ_self _, _, sub_pick (L := [0, 1, 2, 3, 4, 5]) (slots := [0, 5, 8, 11, 12, 13, 128, 129, 130]) rfl rfl rfl rfl rfl, d2 ++ [v], e2b, putV vsp v a2, rfl, by simp, (by rw [List.length_append]; exact hG), ⟨putV_sml hz2_0.v hn2, hz2_0.a, hz2_0.i, hz2_0.s0, hz2_0.sF⟩, by rw [List.length_append, wrapId (by omega) (by omega)]; rfl⟩
        have h6' := of_decide_eq_false h6; rw [hll2] at h6'; obtain rfl : e2 = [] := List.eq_nil_of_length_eq_zero (by omega); simp only [prmM] at hG; refine awp_exit ?_; refine awp_norm [0, 5, 8, 11, 12, 13] rfl rfl ?_; refine rgs fun E K J O => ?_; show aCall _ _ _ _ _ _ _; have sp2 := ih m (by omega) fb ⟨vsp, ar1, inp1, st1⟩ hf.1 hf.2.2.1 hz2_0
        cases hr2 : blkM ps F m fb ⟨vsp, ar1, inp1, st1⟩ with
        | out =>
          try simp only [MO.bind, evS, hr2] at hG
          exact absurd hG.symm hne
        | stop k2 T2 =>
          rw [hr2] at sp2; refine aP [0, 1, 2, 3] rfl rfl rfl (sp2 nofun) rfl rfl rfl rfl ?_; refine J _ _ ?_
          try simp only [MO.bind, evS, hr2] at hG
          subst hG; exact ⟨[0, 1, 2, 3], _, rfl, rfl, rfl, rfl, rfl⟩
        | ok T2 =>
          rw [hr2] at sp2; have hS2 := (pr_all ps F m).1 fb _ hz2_0 _ hr2; obtain ⟨vs2, ar2, inp2, st2⟩ := T2; refine aR [0, 1, 2, 3] rfl rfl rfl (sp2 nofun) rfl rfl rfl rfl ?_
          try simp only [MO.bind, evS, hr2] at hG
          refine O _ (aN [0, 5, 8, 11, 12, 13] rfl rfl ?_); clear O J K E; refine (awp_draw TT_ok mixed p161_25 [14] (fun i => Nat.beq i 0 || Nat.beq i 4 || Nat.beq i 5) (by kernel_rfl) fun E K J O => ?_)
          show aCall _ _ _ _ _ _ _
          have sp3 := eval_spec G _ vs2 ar2 (.mk ro rn rm rl) (Nat.le_refl _) hf.2.1 hS2.v hS2.a
          cases hr3 : evM vs2 ar2 (.mk ro rn rm rl) with
          | none =>
            rw [hr3] at sp3; refine aP [1, 2] rfl rfl rfl sp3 rfl rfl rfl rfl ?_; refine J _ _ ?_
            try simp only [hr3] at hG
            subst hG; exact ⟨[0, 1, 2, 3], _, rfl, rfl, rfl, rfl, rfl⟩
          | some a3 =>
            rw [hr3] at sp3; have hn3 := ev_ar hS2.v hS2.a (.mk ro rn rm rl) a3 hr3; refine aR [1, 2] rfl rfl rfl sp3 rfl rfl rfl rfl ?_; refine Exists.intro _ (And.intro (vsL_put _ _ _) ?_); refine O _ (aN [0, 11, 12, 13] rfl rfl ?_); clear O J K E; refine rgn fun E K J O => ?_; refine O _ ?_; clear O J K E
            try simp only [hr3] at hG
            exact ⟨_, Nat.lt_succ_self _, _, sub_pick (L := [0, 1, 2, 3]) (slots := [0, 11, 12, 13]) rfl rfl rfl rfl rfl, d1 ++ [(Sm.mk kind name proc args cond body els)], e1b, (putV vs2 name a3), ar2, inp2, st2, m + 1, rfl, by simp, hG, hr, by omega, ⟨putV_sml hS2.v hn3, hS2.a, hS2.i, hS2.s0, hS2.sF⟩, by omega, by rw [List.length_append, wrapId (by omega) (by omega)]; rfl⟩
      simp only [h5] at hG; refine rgs fun E K J O => ?_; refine O _ (aN [0, 5, 11, 12, 13, 20, 170] rfl rfl ?_); clear O J K E; refine awp_cond2 rfl (onB_intro (fun h6 => ?_) (fun h6 => ?_))
      · simp only [h6] at hG
        refine awp_seq ?_; refine (awp_draw TT_ok mixed p161_27 [6] (fun i => Nat.beq i 0 || Nat.beq i 4) (by kernel_rfl) fun E K J O => ?_)
        show aCall _ _ _ _ _ _ _
        have sp2 := cond_spec G vs1 ar1 cond hkc (by omega) hS1.v hS1.a
        cases hr2 : condM vs1 ar1 cond with
        | none =>
          rw [hr2] at sp2; refine aP [1, 2] rfl rfl rfl sp2 rfl rfl rfl rfl ?_; refine J _ _ ?_
          try simp only [cdS, hr2] at hG
          subst hG; exact ⟨[0, 1, 2, 3], _, rfl, rfl, rfl, rfl, rfl⟩
        | some b2 =>
          rw [hr2] at sp2; refine aR [1, 2] rfl rfl rfl sp2 rfl rfl rfl rfl ?_; refine O _ (aN [0, 5, 11, 12, 13, 178] rfl rfl ?_); clear O J K E; refine awp_cond2 rfl (onB_intro (fun h7 => ?_) (fun h7 => ?_))
          · refine rgn fun E K J O => ?_; show aCall _ _ _ _ _ _ _
            have sp3 := ih m (by omega) body ⟨vs1, ar1, inp1, st1⟩ hb (by omega) hS1
            cases hr3 : blkM ps F m body ⟨vs1, ar1, inp1, st1⟩ with
            | out =>
              try simp only [cdS, hr2, h7, hr3] at hG
              exact absurd hG.symm hne
            | stop k3 T3 =>
              rw [hr3] at sp3; refine aP [0, 1, 2, 3] rfl rfl rfl (sp3 nofun) rfl rfl rfl rfl ?_; refine J _ _ ?_
              try simp only [cdS, hr2, h7, hr3] at hG
              subst hG; exact ⟨[0, 1, 2, 3], _, rfl, rfl, rfl, rfl, rfl⟩
            | ok T3 =>
              rw [hr3] at sp3; have hS3 := (pr_all ps F m).1 body _ hS1 _ hr3; obtain ⟨vs3, ar3, inp3, st3⟩ := T3; refine aR [0, 1, 2, 3] rfl rfl rfl (sp3 nofun) rfl rfl rfl rfl ?_
              try simp only [cdS, hr2, h7, hr3] at hG
              refine O _ (aN [0, 11, 12, 13] rfl rfl ?_); clear O J K E; refine rgn fun E K J O => ?_; refine O _ ?_; clear O J K E
              try simp only [bn, MO.bind, evS, cdS, h2, h3, h4, h5, h6, hr2, h7] at hG
              exact ⟨_, Nat.lt_succ_self _, _, sub_pick (L := [0, 1, 2, 3]) (slots := [0, 11, 12, 13]) rfl rfl rfl rfl rfl, d1 ++ [(Sm.mk kind name proc args cond body els)], e1b, vs3, ar3, inp3, st3, m + 1, rfl, by simp, hG, hr, by omega, hS3, by omega, by rw [List.length_append, wrapId (by omega) (by omega)]; rfl⟩
          refine rgn fun E K J O => ?_; show aCall _ _ _ _ _ _ _; have sp3 := ih m (by omega) els ⟨vs1, ar1, inp1, st1⟩ he (by omega) hS1
          cases hr3 : blkM ps F m els ⟨vs1, ar1, inp1, st1⟩ with
          | out =>
            try simp only [cdS, hr2, h7, hr3] at hG
            exact absurd hG.symm hne
          | stop k3 T3 =>
            rw [hr3] at sp3; refine aP [0, 1, 2, 3] rfl rfl rfl (sp3 nofun) rfl rfl rfl rfl ?_; refine J _ _ ?_
            try simp only [cdS, hr2, h7, hr3] at hG
            subst hG; exact ⟨[0, 1, 2, 3], _, rfl, rfl, rfl, rfl, rfl⟩
          | ok T3 =>
            rw [hr3] at sp3; have hS3 := (pr_all ps F m).1 els _ hS1 _ hr3; obtain ⟨vs3, ar3, inp3, st3⟩ := T3; refine aR [0, 1, 2, 3] rfl rfl rfl (sp3 nofun) rfl rfl rfl rfl ?_
            try simp only [cdS, hr2, h7, hr3] at hG
            refine O _ (aN [0, 11, 12, 13] rfl rfl ?_); clear O J K E; refine rgn fun E K J O => ?_; refine O _ ?_; clear O J K E
            try simp only [bn, MO.bind, evS, cdS, h2, h3, h4, h5, h6, hr2, h7] at hG
            exact ⟨_, Nat.lt_succ_self _, _, sub_pick (L := [0, 1, 2, 3]) (slots := [0, 11, 12, 13]) rfl rfl rfl rfl rfl, d1 ++ [(Sm.mk kind name proc args cond body els)], e1b, vs3, ar3, inp3, st3, m + 1, rfl, by simp, hG, hr, by omega, hS3, by omega, by rw [List.length_append, wrapId (by omega) (by omega)]; rfl⟩
      simp only [h6] at hG; refine rgs fun E K J O => ?_; refine O _ (aN [0, 5, 11, 12, 13, 20, 187] rfl rfl ?_); clear O J K E; refine awp_cond2 rfl (onB_intro (fun h7 => ?_) (fun h7 => ?_))
      · simp only [h7] at hG
        refine awp_block ?_; refine awp_norm [0, 5, 11, 12, 13] rfl rfl ?_; refine awp_loop (fun k Y => ∃ (wv : List (ByteArray × Int)) (wa : List (ByteArray × List Int)) (wi : List Int) (ws : Int) (m2 : Nat), k = m2 ∧ ((whM ps F m2 cond body ⟨wv, wa, wi, ws⟩).bind fun S => blkM ps F (m + 1) e1b S) = R ∧ m2 ≤ m ∧ SOk F ⟨wv, wa, wi, ws⟩ ∧ Y = ⟨[(0, .box 0 0), (5, .box 4 0), (11, .d (.sl 7 (sms (d1 ++ (Sm.mk kind name proc args cond body els) :: e1b)))), (12, .d (num (sms (d1 ++ (Sm.mk kind name proc args cond body els) :: e1b)).length)), (13, .d (num d1.length))], [.box 191 [.acc 1, .am 2 0, .acc 3, .d (.sl 1 (numsD wi)), .d (num F), .d (num ws)], .map 185 (vsL wv), .amap 186 false wa, .map 189 (prL ps), .box 217 ((Sm.mk kind name proc args cond body els).cs.map PV.d)]⟩) (m) (⟨vs1, ar1, inp1, st1, m, rfl, hG, Nat.le_refl _, hS1, rfl⟩) ?_; clear hG; rintro k Y ⟨wv, wa, wi, ws, m2, rfl, hG, hm2, hS2, rfl⟩
        cases k with
        | zero => simp only [whM, MO.bind] at hG; exact absurd hG.symm hne
        | succ m2 =>
        simp only [whM] at hG; refine awp_seq ?_; refine awp_seq ?_; refine (awp_draw TT_ok mixed p161_31 [6] (fun i => Nat.beq i 0 || Nat.beq i 4) (by kernel_rfl) fun E K J O => ?_)
        show aCall _ _ _ _ _ _ _
        have sp2 := cond_spec G wv wa cond hkc (by omega) hS2.v hS2.a
        cases hr2 : condM wv wa cond with
        | none =>
          rw [hr2] at sp2; refine aP [1, 2] rfl rfl rfl sp2 rfl rfl rfl rfl ?_; refine J _ _ ?_
          try simp only [MO.bind, cdS, hr2] at hG
          subst hG; exact ⟨[0, 1, 2, 3], _, rfl, rfl, rfl, rfl, rfl⟩
        | some b2 =>
          rw [hr2] at sp2; refine aR [1, 2] rfl rfl rfl sp2 rfl rfl rfl rfl ?_; refine O _ (aN [0, 5, 11, 12, 13, 195] rfl rfl ?_); clear O J K E; refine awp_cond2 rfl (onB_intro (fun h8 => ?_) (fun h8 => ?_))
          · refine awp_skip ?_; refine awp_block ?_; refine rgs fun E K J O => ?_; show aCall _ _ _ _ _ _ _
            have sp3 := ih m2 (by omega) body ⟨wv, wa, wi, ws⟩ hb (by omega) hS2
            cases hr3 : blkM ps F m2 body ⟨wv, wa, wi, ws⟩ with
            | out =>
              try simp only [MO.bind, cdS, hr2, h8, hr3] at hG
              exact absurd hG.symm hne
            | stop k3 T3 =>
              rw [hr3] at sp3; refine aP [0, 1, 2, 3] rfl rfl rfl (sp3 nofun) rfl rfl rfl rfl ?_; refine J _ _ ?_
              try simp only [MO.bind, cdS, hr2, h8, hr3] at hG
              subst hG; exact ⟨[0, 1, 2, 3], _, rfl, rfl, rfl, rfl, rfl⟩
            | ok T3 =>
              rw [hr3] at sp3; have hS3 := (pr_all ps F m2).1 body _ hS2 _ hr3; obtain ⟨vs3, ar3, inp3, st3⟩ := T3; refine aR [0, 1, 2, 3] rfl rfl rfl (sp3 nofun) rfl rfl rfl rfl ?_
              try simp only [MO.bind, cdS, hr2, h8, hr3] at hG
              refine O _ (aN [0, 5, 11, 12, 13] rfl rfl ?_); clear O J K E; refine rgn fun E K J O => ?_; show aCall _ _ _ _ _ _ _; have sp4 := step_spec G ps F ⟨vs3, ar3, inp3, st3⟩ hS3 hF
              cases hr4 : stepM F ⟨vs3, ar3, inp3, st3⟩ with
              | out =>
                try simp only [hr4] at hG
                exact absurd hG.symm hne
              | stop k4 T4 =>
                rw [hr4] at sp4; refine aP [0, 1, 2, 3] rfl rfl rfl (sp4 nofun) rfl rfl rfl rfl ?_; refine J _ _ ?_
                try simp only [hr4] at hG
                subst hG; exact ⟨[0, 1, 2, 3], _, rfl, rfl, rfl, rfl, rfl⟩
              | ok T4 =>
                rw [hr4] at sp4; have hS4 := pr_step hS3 _ hr4; obtain ⟨vs4, ar4, inp4, st4⟩ := T4; refine aR [0, 1, 2, 3] rfl rfl rfl (sp4 nofun) rfl rfl rfl rfl ?_
                try simp only [hr4] at hG
                refine O _ ?_; clear O J K E
                try simp only [bn, MO.bind, evS, cdS, h2, h3, h4, h5, h6, h7, hr2, h8] at hG
                exact ⟨m2, Nat.lt_succ_self _, _, sub_pick (L := [0, 1, 2, 3, 4]) (slots := [0, 5, 11, 12, 13]) rfl rfl rfl rfl rfl, vs4, ar4, inp4, st4, m2, rfl, hG, by omega, hS4, rfl⟩
          refine awp_exit ?_; refine awp_norm [0, 11, 12, 13] rfl rfl ?_; refine rgn fun E K J O => ?_; refine O _ ?_; clear O J K E
          try simp only [MO.bind, cdS, hr2, h8] at hG
          exact ⟨_, Nat.lt_succ_self _, _, sub_pick (L := [0, 1, 2, 3]) (slots := [0, 11, 12, 13]) rfl rfl rfl rfl rfl, d1 ++ [(Sm.mk kind name proc args cond body els)], e1b, wv, wa, wi, ws, m + 1, rfl, by simp, hG, hr, by omega, hS2, by omega, by rw [List.length_append, wrapId (by omega) (by omega)]; rfl⟩
      simp only [h7] at hG; refine rgs fun E K J O => ?_; refine O _ (aN [0, 5, 11, 12, 13, 20, 202] rfl rfl ?_); clear O J K E; refine awp_cond2 rfl (onB_intro (fun h8 => ?_) (fun h8 => ?_))
      · simp only [h8] at hG
        refine awp_seq ?_; refine (awp_draw TT_ok mixed p161_35 [6] (fun i => Nat.beq i 0 || Nat.beq i 4) (by kernel_rfl) fun E K J O => ?_)
        show aCall _ _ _ _ _ _ _
        have sp2 := cond_spec G vs1 ar1 cond hkc (by omega) hS1.v hS1.a
        cases hr2 : condM vs1 ar1 cond with
        | none =>
          rw [hr2] at sp2; refine aP [1, 2] rfl rfl rfl sp2 rfl rfl rfl rfl ?_; refine J _ _ ?_
          try simp only [cdS, hr2] at hG
          subst hG; exact ⟨[0, 1, 2, 3], _, rfl, rfl, rfl, rfl, rfl⟩
        | some b2 =>
          rw [hr2] at sp2; refine aR [1, 2] rfl rfl rfl sp2 rfl rfl rfl rfl ?_; refine O _ (aN [0, 11, 12, 13, 211] rfl rfl ?_); clear O J K E; refine awp_cond2 rfl (onB_intro (fun h9 => ?_) (fun h9 => ?_))
          · have hhh9 : b2 = false := by simpa using h9
            refine rgn fun E K J O => ?_; refine J _ _ ?_
            try simp only [cdS, hr2, hhh9] at hG
            subst hG; exact ⟨[0, 1, 2, 3], _, rfl, rfl, rfl, rfl, rfl⟩
          have hhh9 : b2 = true := by simpa using h9
          refine awp_skip ?_; refine rgn fun E K J O => ?_; refine O _ ?_; clear O J K E
          try simp only [cdS, hr2, hhh9] at hG
          exact ⟨_, Nat.lt_succ_self _, _, sub_pick (L := [0, 1, 2, 3]) (slots := [0, 11, 12, 13]) rfl rfl rfl rfl rfl, d1 ++ [(Sm.mk kind name proc args cond body els)], e1b, vs1, ar1, inp1, st1, m + 1, rfl, by simp, hG, hr, by omega, hS1, by omega, by rw [List.length_append, wrapId (by omega) (by omega)]; rfl⟩
      simp only [h8] at hG; refine rgs fun E K J O => ?_; refine O _ (aN [0, 5, 11, 12, 13, 213] rfl rfl ?_); clear O J K E; refine awp_cond2 rfl (onB_intro (fun h9 => ?_) (fun h9 => ?_))
      · simp only [h9] at hG
        refine awp_seq ?_; refine (awp_draw TT_ok mixed p161_38 [6] (fun i => Nat.beq i 0 || Nat.beq i 4) (by kernel_rfl) fun E K J O => ?_)
        show aCall _ _ _ _ _ _ _
        have sp2 := cond_spec G vs1 ar1 cond hkc (by omega) hS1.v hS1.a
        cases hr2 : condM vs1 ar1 cond with
        | none =>
          rw [hr2] at sp2; refine aP [1, 2] rfl rfl rfl sp2 rfl rfl rfl rfl ?_; refine J _ _ ?_
          try simp only [cdS, hr2] at hG
          subst hG; exact ⟨[0, 1, 2, 3], _, rfl, rfl, rfl, rfl, rfl⟩
        | some b2 =>
          rw [hr2] at sp2; refine aR [1, 2] rfl rfl rfl sp2 rfl rfl rfl rfl ?_; refine O _ (aN [0, 11, 12, 13, 222] rfl rfl ?_); clear O J K E; refine awp_cond2 rfl (onB_intro (fun h10 => ?_) (fun h10 => ?_))
          · have hhh10 : b2 = false := by simpa using h10
            refine rgn fun E K J O => ?_; refine J _ _ ?_
            try simp only [cdS, hr2, hhh10] at hG
            subst hG; exact ⟨[0, 1, 2, 3], _, rfl, rfl, rfl, rfl, rfl⟩
          have hhh10 : b2 = true := by simpa using h10
          refine awp_skip ?_; refine rgn fun E K J O => ?_; refine O _ ?_; clear O J K E
          try simp only [cdS, hr2, hhh10] at hG
          exact ⟨_, Nat.lt_succ_self _, _, sub_pick (L := [0, 1, 2, 3]) (slots := [0, 11, 12, 13]) rfl rfl rfl rfl rfl, d1 ++ [(Sm.mk kind name proc args cond body els)], e1b, vs1, ar1, inp1, st1, m + 1, rfl, by simp, hG, hr, by omega, hS1, by omega, by rw [List.length_append, wrapId (by omega) (by omega)]; rfl⟩
      simp only [h9] at hG; refine awp_skip ?_; refine rgn fun E K J O => ?_; refine O _ ?_; clear O J K E
      try simp only [bn, MO.bind, evS, cdS, h2, h3, h4, h5, h6, h7, h8, h9] at hG
      exact ⟨_, Nat.lt_succ_self _, _, sub_pick (L := [0, 1, 2, 3]) (slots := [0, 11, 12, 13]) rfl rfl rfl rfl rfl, d1 ++ [(Sm.mk kind name proc args cond body els)], e1b, vs1, ar1, inp1, st1, m + 1, rfl, by simp, hG, hr, by omega, hS1, by omega, by rw [List.length_append, wrapId (by omega) (by omega)]; rfl⟩
  have h1' := of_decide_eq_false h1; rw [hll1] at h1'; obtain rfl : e1 = [] := List.eq_nil_of_length_eq_zero (by omega)
  cases m with
  | zero => simp only [blkM] at hG; exact absurd hG.symm hne
  | succ m =>
  simp only [blkM] at hG; refine awp_exit ?_
  try simp only [bn, MO.bind, evS, cdS] at hG
  subst hG; exact ⟨_, [0, 1, 2, 3], _, [], rfl, rfl, rfl, rfl, rfl, PWs.nil, rfl⟩
theorem mblk_spec (hF : F ≤ 1000000000000) (hP : PcOk ps) : ∀ n m : Nat, m ≤ n → MBlk G ps F m
  | 0, m, h => fun l S _ _ _ hne => by
    obtain rfl : m = 0 := by omega
    simp only [blkM] at hne; exact absurd rfl hne
  | n + 1, m, h => by
    rcases Nat.lt_or_ge m (n + 1) with q | q
    · exact mblk_spec hF hP n m (by omega)
    obtain rfl : m = n + 1 := by omega
    exact mblk_step G ps F hF hP n (mblk_spec hF hP n)
end
end Go.Abs
end
section
namespace Go.Abs
open Go Go.Proofs
attribute [local irreducible] aCall AWp Sub Spec GW DSpec EndOk PanOk
theorem all1_nil (G : Glob) (e : Data) : DSpec Tryz.prog G 160 [.box 0 0] [.box 9 [.d e]] (.d (.s .nilIface)) [.box 9 [.d e]] := by
 refine dspec_of_awp TT_ok (N := 11) (fn := Tryz.f160) (d0 := 4) Tryz.func160 rfl (by rfl) rfl (Nat.le_refl _) rfl rfl rfl rfl rfl rfl rfl ?_; intro pan K hK; refine hK _ ?_; clear hK K pan; refine awp_norm [0, 4] rfl rfl ?_; refine awp_block ?_; refine rgs fun pan K hp hK => ?_; refine hK _ (aN [0, 4, 6] rfl rfl ?_); clear hK hp K pan; refine awp_cond rfl ?_; refine rgn fun pan K hp hK => ?_; refine hK _ ?_; exact ⟨[0], rfl, rfl, rfl⟩
theorem all1_bad (G : Glob) (e : Data) (k : ByteArray) : DSpec Tryz.prog G 160 [.box 0 0] [.box 9 [.d e]] (endP k) [.box 9 [.d (str k)]] := by
 refine dspec_of_awp TT_ok (N := 11) (fn := Tryz.f160) (d0 := 4) Tryz.func160 rfl (by rfl) rfl (Nat.le_refl _) rfl rfl rfl rfl rfl rfl rfl ?_; intro pan K hK; refine hK _ ?_; clear hK K pan; refine awp_norm [0, 4] rfl rfl ?_; refine awp_block ?_; refine rgs fun pan K hp hK => ?_; refine hK _ (aN [0, 4, 6] rfl rfl ?_); clear hK hp K pan; refine awp_cond rfl ?_; refine rgs fun pan K hp hK => ?_; refine hK _ (aN [0, 4, 8, 9] rfl rfl ?_); clear hK hp K pan; refine awp_cond rfl ?_; refine rgs fun pan K hp hK => ?_; refine hK _ (aN [0, 2] rfl rfl ?_); clear hK hp K pan; refine rgn fun pan K hp hK => ?_; refine hK _ ?_; exact ⟨[0], rfl, rfl, rfl⟩
section
variable (G : Glob) (ps : List Pc) (F : Int)
theorem all_ok (hF : F ≤ 1000000000000) (hP : PcOk ps) (n : Nat) (l : List Sm) (S S1 : MS) (hwf : wfB ps l = true) (hwt : wtB l ≤ 1000000000) (hS : SOk F S) (h : blkM ps F n l S = .ok S1) : Spec Tryz.prog G 94 [.box 0 0, .d (.sl 7 (sms l))] (rnR ps F S) (.ret (.d (str ⟨#[100, 111, 110, 101]⟩))) (rnR ps F S1) := by
 have sp := mblk_spec G ps F hF hP n n (Nat.le_refl _) l S hwf hwt hS; rw [h] at sp; refine spec_of_gw (N := 9) Tryz.func94 rfl (by rfl) (Nat.le_refl _) rfl ?_; intro H0 lim0 w0 hn; refine gw_seq_region TT_ok fun pan K hp hK => ?_; refine hK _ ?_; clear hK hp K pan; refine gw_norm [0, 1, 4] rfl rfl ?_; refine gw_seq_defer rfl rfl rfl rfl rfl rfl rfl rfl rfl fun H1 lim1 w1 vs lk1 hcs => ?_; refine gw_norm [0, 1, 4] rfl rfl ?_; refine gw_seq_region TT_ok fun pan K hp hK => ?_
 show aCall _ _ _ _ _ _ _
 refine aR [0, 1, 2, 3] rfl rfl rfl (sp nofun) rfl rfl rfl rfl ?_; refine hK _ ?_; clear hK hp K pan; refine gw_norm [4] rfl rfl ?_; refine gw_seq_region TT_ok fun pan K hp hK => ?_; refine hK _ ?_; clear hK hp K pan; refine gw_norm [4] rfl rfl ?_; refine gw_ret (end_defer TT_ok hn (Nat.le_succ _) lk1 hcs rfl ?_); exact ⟨[4], _, _, _, _, _, _, _, rfl, rfl, rfl, rfl, all1_nil _ _, rfl, rfl, rfl, _, [0, 1, 2, 3], _, [_], rfl, rfl, rfl, rfl, rfl, PWs.refl _, rfl⟩
theorem all_stop (hF : F ≤ 1000000000000) (hP : PcOk ps) (n : Nat) (l : List Sm) (S S1 : MS) (k : ByteArray) (hwf : wfB ps l = true) (hwt : wtB l ≤ 1000000000) (hS : SOk F S) (h : blkM ps F n l S = .stop k S1) : Spec Tryz.prog G 94 [.box 0 0, .d (.sl 7 (sms l))] (rnR ps F S) (.ret (.d (str k))) (rnR ps F S1) := by
 have sp := mblk_spec G ps F hF hP n n (Nat.le_refl _) l S hwf hwt hS; rw [h] at sp; refine spec_of_gw (N := 9) Tryz.func94 rfl (by rfl) (Nat.le_refl _) rfl ?_; intro H0 lim0 w0 hn; refine gw_seq_region TT_ok fun pan K hp hK => ?_; refine hK _ ?_; clear hK hp K pan; refine gw_norm [0, 1, 4] rfl rfl ?_; refine gw_seq_defer rfl rfl rfl rfl rfl rfl rfl rfl rfl fun H1 lim1 w1 vs lk1 hcs => ?_; refine gw_norm [0, 1, 4] rfl rfl ?_; refine gw_seq_region TT_ok fun pan K hp hK => ?_
 show aCall _ _ _ _ _ _ _
 refine aP [0, 1, 2, 3] rfl rfl rfl (sp nofun) rfl rfl rfl rfl ?_; refine hp _ _ ?_; refine pan_defer TT_ok hn (Nat.le_succ _) lk1 hcs rfl ?_; exact ⟨[4], _, _, _, _, _, _, _, rfl, rfl, rfl, rfl, all1_bad _ _ _, rfl, rfl, rfl, _, [0, 1, 2, 3], _, [_], rfl, rfl, rfl, rfl, rfl, PWs.refl _, rfl⟩
theorem all_spec (hF : F ≤ 1000000000000) (hP : PcOk ps) (n : Nat) (l : List Sm) (S S1 : MS) (k : ByteArray) (hwf : wfB ps l = true) (hwt : wtB l ≤ 1000000000) (hS : SOk F S) (h : allM ps F n l S = some (k, S1)) : Spec Tryz.prog G 94 [.box 0 0, .d (.sl 7 (sms l))] (rnR ps F S) (.ret (.d (str k))) (rnR ps F S1) := by
 unfold allM at h
 cases hb : blkM ps F n l S with
 | out => rw [hb] at h; cases h
 | ok A =>
  rw [hb] at h; obtain ⟨rfl, rfl⟩ := Prod.mk.inj (Option.some.inj h); exact all_ok G ps F hF hP n l S A hwf hwt hS hb
 | stop q A =>
  rw [hb] at h; obtain ⟨rfl, rfl⟩ := Prod.mk.inj (Option.some.inj h); exact all_stop G ps F hF hP n l S A q hwf hwt hS hb
end
end Go.Abs
end
