/- Texts of this proof, joined: AbsKE, AbsKF, AbsKG, AbsKT, AbsKH, AbsKI, AbsLF, AbsLG. -/
import Derived.Test.YtedljfabpknjiaaGreatDoorV13
import Derived.Test.YtedljfabpknjiaaGreatDoorV11
import Derived.Test.YtedljfabpknjiaaGreatDoorV5
import Derived.Test.YtedljfabpknjiaaGreatDoorV9
import Derived.WalkKit
import Derived.Deep.LoopGhost
import Derived.Shelf.Slices.In.SortNone
import Derived.Sort.OwnSorted
import Derived.Sort.Grow
import Derived.Lib.OwnBridge
import Derived.Lib.RowBridge
import Derived.Laws.Append
import Derived.Laws.AppendOwn
import Derived.Test.YtedljfabpknjiaaGreatDoorV12
section
namespace Go.Abs
open Go Go.Proofs
attribute [local irreducible] aCall AWp Sub Spec
/-- Are the names of a statement's own known? -/
def kindN (vs ay : List ByteArray) (ps : List Pc) (kind name proc : ByteArray) : Bool := match (kind.toList == (⟨#[115, 101, 116]⟩ : ByteArray).toList) with
 | true => hasB vs name
 | false => match (kind.toList == (⟨#[114, 101, 97, 100]⟩ : ByteArray).toList) with
  | true => hasB vs name
  | false => match (kind.toList == (⟨#[112, 117, 116]⟩ : ByteArray).toList) with
   | true => hasB ay name
   | false => match (kind.toList == (⟨#[99, 97, 108, 108]⟩ : ByteArray).toList) with
    | true => hasB vs name && decide (procJ proc ps 0 ≥ 0)
    | false => true
/-- Are all names of a statement known? -/
def seeN (vs ay : List ByteArray) (ps : List Pc) : Sm → Bool
 | .mk kind name proc args cond _ _ => kindN vs ay ps kind name proc && tmsN vs ay (args ++ condE cond)
section
variable (G : Glob)
theorem tsE_wt : ∀ r : List Ts, wtL (tsE r) ≤ wtR r
 | [] => by simp [tsE, wtL]
 | t :: r => by have := tsE_wt r; simp only [tsE, wtL, wtR, wtT]; omega
theorem condE_wt : ∀ c : List (List Ts), wtL (condE c) ≤ wtC c
 | [] => by simp [condE, wtL]
 | r :: c => by have := condE_wt c; have := tsE_wt r; simp only [condE, wtC, wtL_app]; omega
theorem see_true (vs ay : List ByteArray) (ps : List Pc) (hv : vs.length ≤ 1073741824) (ha : ay.length ≤ 1073741824) (hp0 : ps.length ≤ 1073741824) (kind name proc : ByteArray) (args : List Ex) (cond : List (List Ts)) (body els : List Sm) (hw : wtL args + wtC cond ≤ 500000000) : Spec Tryz.prog G 164 [.d (.agg (Sm.mk kind name proc args cond body els).cs), .box 0 0, .box 1 0] (WkR vs ay ps true) (.ret (.tup [])) (WkR vs ay ps (seeN vs ay ps (.mk kind name proc args cond body els))) := by
 have hal := wtL_len args; have hcl := condE_len cond
 have hwa : wtL (args ++ condE cond) ≤ 1000000000 := by rw [wtL_app]; have := condE_wt cond; omega
 have ht := terms_spec G kind name proc args cond body els (by omega) (by omega); have hs := place_terms G vs ay ps hv ha (args ++ condE cond) hwa; obtain ⟨b, hG⟩ : ∃ b, seeN vs ay ps (.mk kind name proc args cond body els) = b := ⟨_, rfl⟩; rw [hG]; simp only [seeN, kindN] at hG; refine spec_of_awp2 TT_ok (N := 52) Tryz.func164 rfl (by rfl) (Nat.le_refl _) rfl ?_; refine rgs fun E K J O => ?_; refine O _ (aN [1, 2, 3] rfl rfl ?_); clear O J K E; refine awp_seq ?_; refine rgs fun E K J O => ?_; refine O _ (aN [1, 2, 3, 5] rfl rfl ?_); clear O J K E; refine awp_block ?_; refine awp_seq ?_; refine rgs fun E K J O => ?_; refine O _ (aN [1, 2, 3, 5, 6] rfl rfl ?_); clear O J K E; refine awp_cond2 rfl (onB_intro (fun h1 => ?_) (fun h1 => ?_))
 ·try simp only [h1] at hG
  refine awp_skip ?_; refine awp_cond rfl ?_; refine rgn fun E K J O => ?_; show aCall _ _ _ _ _ _ _
  first
   | refine aR [] rfl rfl rfl (contains_spec G vs name hv) rfl rfl rfl rfl ?_
   | refine aR [] rfl rfl rfl (contains_spec G ay name ha) rfl rfl rfl rfl ?_
  refine O _ (aN [1, 2, 3] rfl rfl ?_); clear O J K E; refine rgn fun E K J O => ?_; refine onB_intro (fun h2 => ?_) (fun h2 => ?_)
  ·try simp only [h2, bn] at hG
   show aCall _ _ _ _ _ _ _
   refine aR [] rfl rfl rfl ht rfl rfl rfl rfl ?_
   show aCall _ _ _ _ _ _ _
   cases hr : tmsN vs ay (args ++ condE cond) with
   | true =>
    rw [hr] at hs
    try simp only [hr] at hG
    refine aR [1] rfl rfl rfl hs rfl rfl rfl rfl ?_; refine O _ ?_; clear O J K E
    (try simp only [bn] at hG)
    subst hG; exact ⟨_, [0, 1], _, [], rfl, rfl, rfl, rfl, rfl, PWs.nil, rfl⟩
   | false =>
    rw [hr] at hs
    try simp only [hr] at hG
    refine aR [1] rfl rfl rfl hs rfl rfl rfl rfl ?_; refine O _ ?_; clear O J K E
    (try simp only [bn] at hG)
    subst hG; exact ⟨_, [0, 1], _, [], rfl, rfl, rfl, rfl, rfl, PWs.nil, rfl⟩
  try simp only [h2, bn] at hG
  refine O _ ?_; clear O J K E
  (try simp only [bn] at hG)
  subst hG; exact ⟨_, [0, 1], _, [], rfl, rfl, rfl, rfl, rfl, PWs.nil, rfl⟩
 try simp only [h1] at hG
 refine rgn fun E K J O => ?_; refine O _ (aN [1, 2, 3, 5, 6] rfl rfl ?_); clear O J K E; refine awp_cond2 rfl (onB_intro (fun h2 => ?_) (fun h2 => ?_))
 ·try simp only [h2] at hG
  refine rgn fun E K J O => ?_; show aCall _ _ _ _ _ _ _
  first
   | refine aR [] rfl rfl rfl (contains_spec G vs name hv) rfl rfl rfl rfl ?_
   | refine aR [] rfl rfl rfl (contains_spec G ay name ha) rfl rfl rfl rfl ?_
  refine O _ (aN [1, 2, 3] rfl rfl ?_); clear O J K E; refine rgn fun E K J O => ?_; refine onB_intro (fun h3 => ?_) (fun h3 => ?_)
  ·try simp only [h3, bn] at hG
   show aCall _ _ _ _ _ _ _
   refine aR [] rfl rfl rfl ht rfl rfl rfl rfl ?_
   show aCall _ _ _ _ _ _ _
   cases hr : tmsN vs ay (args ++ condE cond) with
   | true =>
    rw [hr] at hs
    try simp only [hr] at hG
    refine aR [1] rfl rfl rfl hs rfl rfl rfl rfl ?_; refine O _ ?_; clear O J K E
    (try simp only [bn] at hG)
    subst hG; exact ⟨_, [0, 1], _, [], rfl, rfl, rfl, rfl, rfl, PWs.nil, rfl⟩
   | false =>
    rw [hr] at hs
    try simp only [hr] at hG
    refine aR [1] rfl rfl rfl hs rfl rfl rfl rfl ?_; refine O _ ?_; clear O J K E
    (try simp only [bn] at hG)
    subst hG; exact ⟨_, [0, 1], _, [], rfl, rfl, rfl, rfl, rfl, PWs.nil, rfl⟩
  try simp only [h3, bn] at hG
  refine O _ ?_; clear O J K E
  (try simp only [bn] at hG)
  subst hG; exact ⟨_, [0, 1], _, [], rfl, rfl, rfl, rfl, rfl, PWs.nil, rfl⟩
 try simp only [h2] at hG
 refine rgs fun E K J O => ?_; refine O _ (aN [1, 2, 3, 5, 17] rfl rfl ?_); clear O J K E; refine awp_cond2 rfl (onB_intro (fun h3 => ?_) (fun h3 => ?_))
 ·try simp only [h3] at hG
  refine rgn fun E K J O => ?_; show aCall _ _ _ _ _ _ _
  first
   | refine aR [] rfl rfl rfl (contains_spec G vs name hv) rfl rfl rfl rfl ?_
   | refine aR [] rfl rfl rfl (contains_spec G ay name ha) rfl rfl rfl rfl ?_
  refine O _ (aN [1, 2, 3] rfl rfl ?_); clear O J K E; refine rgn fun E K J O => ?_; refine onB_intro (fun h4 => ?_) (fun h4 => ?_)
  ·try simp only [h4, bn] at hG
   show aCall _ _ _ _ _ _ _
   refine aR [] rfl rfl rfl ht rfl rfl rfl rfl ?_
   show aCall _ _ _ _ _ _ _
   cases hr : tmsN vs ay (args ++ condE cond) with
   | true =>
    rw [hr] at hs
    try simp only [hr] at hG
    refine aR [1] rfl rfl rfl hs rfl rfl rfl rfl ?_; refine O _ ?_; clear O J K E
    (try simp only [bn] at hG)
    subst hG; exact ⟨_, [0, 1], _, [], rfl, rfl, rfl, rfl, rfl, PWs.nil, rfl⟩
   | false =>
    rw [hr] at hs
    try simp only [hr] at hG
    refine aR [1] rfl rfl rfl hs rfl rfl rfl rfl ?_; refine O _ ?_; clear O J K E
    (try simp only [bn] at hG)
    subst hG; exact ⟨_, [0, 1], _, [], rfl, rfl, rfl, rfl, rfl, PWs.nil, rfl⟩
  try simp only [h4, bn] at hG
  refine O _ ?_; clear O J K E
  (try simp only [bn] at hG)
  subst hG; exact ⟨_, [0, 1], _, [], rfl, rfl, rfl, rfl, rfl, PWs.nil, rfl⟩
 try simp only [h3] at hG
 refine rgs fun E K J O => ?_; refine O _ (aN [1, 2, 3, 27] rfl rfl ?_); clear O J K E; refine awp_cond2 rfl (onB_intro (fun h4 => ?_) (fun h4 => ?_))
 ·try simp only [h4] at hG
  refine rgn fun E K J O => ?_; show aCall _ _ _ _ _ _ _
  first
   | refine aR [] rfl rfl rfl (contains_spec G vs name hv) rfl rfl rfl rfl ?_
   | refine aR [] rfl rfl rfl (contains_spec G ay name ha) rfl rfl rfl rfl ?_
  refine onB_intro (fun h5 => ?_) (fun h5 => ?_)
  ·try simp only [h5, bn] at hG
   show aCall _ _ _ _ _ _ _
   refine aR [] rfl rfl rfl (proc_spec G vs ay ps proc hp0) rfl rfl rfl rfl ?_; refine O _ (aN [1, 2, 3] rfl rfl ?_); clear O J K E; refine rgn fun E K J O => ?_; refine onB_intro (fun h6 => ?_) (fun h6 => ?_)
   ·try simp only [h6, bn] at hG
    show aCall _ _ _ _ _ _ _
    refine aR [] rfl rfl rfl ht rfl rfl rfl rfl ?_
    show aCall _ _ _ _ _ _ _
    cases hr : tmsN vs ay (args ++ condE cond) with
    | true =>
     rw [hr] at hs
     try simp only [hr] at hG
     refine aR [1] rfl rfl rfl hs rfl rfl rfl rfl ?_; refine O _ ?_; clear O J K E
     (try simp only [bn] at hG)
     subst hG; exact ⟨_, [0, 1], _, [], rfl, rfl, rfl, rfl, rfl, PWs.nil, rfl⟩
    | false =>
     rw [hr] at hs
     try simp only [hr] at hG
     refine aR [1] rfl rfl rfl hs rfl rfl rfl rfl ?_; refine O _ ?_; clear O J K E
     (try simp only [bn] at hG)
     subst hG; exact ⟨_, [0, 1], _, [], rfl, rfl, rfl, rfl, rfl, PWs.nil, rfl⟩
   try simp only [h6, bn] at hG
   refine O _ ?_; clear O J K E
   (try simp only [bn] at hG)
   subst hG; exact ⟨_, [0, 1], _, [], rfl, rfl, rfl, rfl, rfl, PWs.nil, rfl⟩
  try simp only [h5, bn] at hG
  refine O _ (aN [1, 2, 3] rfl rfl ?_); clear O J K E; refine rgn fun E K J O => ?_; refine O _ ?_; clear O J K E
  (try simp only [bn] at hG)
  subst hG; exact ⟨_, [0, 1], _, [], rfl, rfl, rfl, rfl, rfl, PWs.nil, rfl⟩
 try simp only [h4, bn] at hG
 refine awp_skip ?_; refine rgn fun E K J O => ?_; show aCall _ _ _ _ _ _ _; refine aR [] rfl rfl rfl ht rfl rfl rfl rfl ?_
 show aCall _ _ _ _ _ _ _
 cases hr : tmsN vs ay (args ++ condE cond) with
 | true =>
  rw [hr] at hs
  try simp only [hr] at hG
  refine aR [1] rfl rfl rfl hs rfl rfl rfl rfl ?_; refine O _ ?_; clear O J K E
  (try simp only [bn] at hG)
  subst hG; exact ⟨_, [0, 1], _, [], rfl, rfl, rfl, rfl, rfl, PWs.nil, rfl⟩
 | false =>
  rw [hr] at hs
  try simp only [hr] at hG
  refine aR [1] rfl rfl rfl hs rfl rfl rfl rfl ?_; refine O _ ?_; clear O J K E
  (try simp only [bn] at hG)
  subst hG; exact ⟨_, [0, 1], _, [], rfl, rfl, rfl, rfl, rfl, PWs.nil, rfl⟩
theorem see_false (vs ay : List ByteArray) (ps : List Pc) (hv : vs.length ≤ 1073741824) (ha : ay.length ≤ 1073741824) (_hp0 : ps.length ≤ 1073741824) (kind name proc : ByteArray) (args : List Ex) (cond : List (List Ts)) (body els : List Sm) (hw : wtL args + wtC cond ≤ 500000000) : Spec Tryz.prog G 164 [.d (.agg (Sm.mk kind name proc args cond body els).cs), .box 0 0, .box 1 0] (WkR vs ay ps false) (.ret (.tup [])) (WkR vs ay ps (false)) := by
 have hal := wtL_len args; have hcl := condE_len cond
 have hwa : wtL (args ++ condE cond) ≤ 1000000000 := by rw [wtL_app]; have := condE_wt cond; omega
 have ht := terms_spec G kind name proc args cond body els (by omega) (by omega); have hs := place_terms G vs ay ps hv ha (args ++ condE cond) hwa; refine spec_of_awp2 TT_ok (N := 52) Tryz.func164 rfl (by rfl) (Nat.le_refl _) rfl ?_; refine rgs fun E K J O => ?_; refine O _ (aN [1, 2, 3] rfl rfl ?_); clear O J K E; refine awp_seq ?_; refine rgs fun E K J O => ?_; refine O _ (aN [1, 2, 3, 5] rfl rfl ?_); clear O J K E; refine awp_block ?_; refine awp_seq ?_; refine rgs fun E K J O => ?_; refine O _ (aN [1, 2, 3, 5, 6] rfl rfl ?_); clear O J K E; refine awp_cond2 rfl (onB_intro (fun h1 => ?_) (fun h1 => ?_))
 ·refine awp_skip ?_; refine awp_cond rfl ?_; refine rgn fun E K J O => ?_; refine O _ (aN [1, 2, 3] rfl rfl ?_); clear O J K E; refine rgn fun E K J O => ?_; refine O _ ?_; clear O J K E
  exact ⟨_, [0, 1], _, [], rfl, rfl, rfl, rfl, rfl, PWs.nil, rfl⟩
 refine rgn fun E K J O => ?_; refine O _ (aN [1, 2, 3, 5, 6] rfl rfl ?_); clear O J K E; refine awp_cond2 rfl (onB_intro (fun h2 => ?_) (fun h2 => ?_))
 ·refine rgn fun E K J O => ?_; refine O _ (aN [1, 2, 3] rfl rfl ?_); clear O J K E; refine rgn fun E K J O => ?_; refine O _ ?_; clear O J K E
  exact ⟨_, [0, 1], _, [], rfl, rfl, rfl, rfl, rfl, PWs.nil, rfl⟩
 refine rgs fun E K J O => ?_; refine O _ (aN [1, 2, 3, 5, 17] rfl rfl ?_); clear O J K E; refine awp_cond2 rfl (onB_intro (fun h3 => ?_) (fun h3 => ?_))
 ·refine rgn fun E K J O => ?_; refine O _ (aN [1, 2, 3] rfl rfl ?_); clear O J K E; refine rgn fun E K J O => ?_; refine O _ ?_; clear O J K E
  exact ⟨_, [0, 1], _, [], rfl, rfl, rfl, rfl, rfl, PWs.nil, rfl⟩
 refine rgs fun E K J O => ?_; refine O _ (aN [1, 2, 3, 27] rfl rfl ?_); clear O J K E; refine awp_cond2 rfl (onB_intro (fun h4 => ?_) (fun h4 => ?_))
 ·refine rgn fun E K J O => ?_; refine O _ (aN [1, 2, 3] rfl rfl ?_); clear O J K E; refine rgn fun E K J O => ?_; refine O _ ?_; clear O J K E
  exact ⟨_, [0, 1], _, [], rfl, rfl, rfl, rfl, rfl, PWs.nil, rfl⟩
 refine awp_skip ?_; refine rgn fun E K J O => ?_; refine O _ ?_; clear O J K E; exact ⟨_, [0, 1], _, [], rfl, rfl, rfl, rfl, rfl, PWs.nil, rfl⟩
theorem see_spec (vs ay : List ByteArray) (ps : List Pc) (hv : vs.length ≤ 1073741824) (ha : ay.length ≤ 1073741824) (hp0 : ps.length ≤ 1073741824) (s : Sm) (hw : wtS s ≤ 500000000) (ok : Bool) : Spec Tryz.prog G 164 [.d (.agg s.cs), .box 0 0, .box 1 0] (WkR vs ay ps ok) (.ret (.tup [])) (WkR vs ay ps (ok && seeN vs ay ps s)) := by
 obtain ⟨kind, name, proc, args, cond, body, els⟩ := s; simp only [wtS] at hw
 cases ok with
 | true => rw [Bool.true_and]; exact see_true G vs ay ps hv ha hp0 kind name proc args cond body els (by omega)
 | false => exact see_false G vs ay ps hv ha hp0 kind name proc args cond body els (by omega)
mutual
theorem flatS_wt : ∀ (s x : Sm), x ∈ flatS s → wtS x ≤ wtS s
 | .mk kind name proc args cond body els, x, h => by
  simp only [flatS, List.mem_cons, List.mem_append] at h
  rcases h with rfl | h | h
  ·exact Nat.le_refl _
  ·have := flat_wt body x h; simp only [wtS]; omega
  have := flat_wt els x h; simp only [wtS]; omega
theorem flat_wt : ∀ (l : List Sm) (x : Sm), x ∈ flatB l → wtS x ≤ wtB l
 | [], x, h => by simp [flatB] at h
 | s :: r, x, h => by
  simp only [flatB, List.mem_append] at h
  rcases h with h | h
  ·have := flatS_wt s x h; simp only [wtB]; omega
  have := flat_wt r x h; simp only [wtB]; omega
end
theorem stmts_spec (vs ay : List ByteArray) (ps : List Pc) (hv : vs.length ≤ 1073741824) (ha : ay.length ≤ 1073741824) (hp0 : ps.length ≤ 1073741824) (l : List Sm) (hw : wtB l ≤ 500000000) : Spec Tryz.prog G 99 [.d (.agg (PlC vs ay ps)), .d (.sl 7 (sms l))] [] (.ret (.d (.s (.bool ((flatB l).all (seeN vs ay ps)))))) [] := by
 have hk := walk_all G vs ay ps 164 (seeN vs ay ps) (fuB l + 1) l true (Nat.lt_succ_self _) (by omega) (fun x hx ok => see_spec G vs ay ps hv ha hp0 x (by have := flat_wt l x hx; omega) ok); rw [Bool.true_and] at hk; refine spec_of_awp2 TT_ok (N := 10) Tryz.func99 rfl (by rfl) (Nat.le_refl _) rfl ?_; refine rgs fun E K J O => ?_; refine O _ (aN [1, 2] rfl rfl ?_); clear O J K E; refine rgs fun E K J O => ?_; refine O _ (aN [1, 2, 5] rfl rfl ?_); clear O J K E; refine rgs fun E K J O => ?_; show aCall _ _ _ _ _ _ _; refine aR [1, 0] rfl rfl rfl hk rfl rfl rfl rfl ?_; refine O _ (aN [5] rfl rfl ?_); clear O J K E; refine rgs fun E K J O => ?_; refine O _ (aN [4] rfl rfl ?_); clear O J K E; refine awp_ret ?_; exact ⟨_, [], _, [.d (.s (.bool _))], rfl, rfl, rfl, rfl, rfl, PWs.refl _, rfl⟩
theorem stmtNames_spec (vs ay : List ByteArray) (ps : List Pc) (hv : vs.length ≤ 1073741824) (ha : ay.length ≤ 1073741824) (hp0 : ps.length ≤ 1073741824) (l : List Sm) (hw : wtB l ≤ 500000000) : Spec Tryz.prog G 103 [.d (.sl 7 (sms l)), .d (.sl 1 (strs vs)), .d (.sl 1 (strs ay)), .d (.sl 7 (pcs ps))] [] (.ret (.d (.s (.bool ((flatB l).all (seeN vs ay ps)))))) [] := by
 have hfl := flat_spec G l (by omega); have hn0 := flat_len l; have hF0 : ∀ x, x ∈ flatB l → wtS x ≤ 500000000 := fun x hx => Nat.le_trans (flat_wt l x hx) hw; obtain ⟨F, hFe⟩ : ∃ F, flatB l = F := ⟨_, rfl⟩; rw [hFe] at hfl hn0 hF0; have hF : ∀ x, x ∈ F → wtS x ≤ 500000000 := hF0
 have hn : F.length ≤ 1073741824 := by omega
 obtain ⟨b, hG⟩ : ∃ b, (flatB l).all (seeN vs ay ps) = b := ⟨_, rfl⟩; rw [hG]; rw [hFe] at hG; clear hFe hn0 hF0; refine spec_of_awp2 TT_ok (N := 89) Tryz.func103 rfl (by rfl) (Nat.le_refl _) rfl ?_; refine rgs fun E K J O => ?_; refine O _ (aN [0, 1, 2, 3] rfl rfl ?_); clear O J K E; refine rgs fun E K J O => ?_; show aCall _ _ _ _ _ _ _; refine aR [] rfl rfl rfl hfl rfl rfl rfl rfl ?_; refine O _ (aN [0, 1, 2, 3] rfl rfl ?_); clear O J K E; refine awp_seq ?_; refine rgs fun E K J O => ?_; refine O _ (aN [0, 1, 2, 3, 9] rfl rfl ?_); clear O J K E; refine awp_block ?_; refine awp_loop (fun k Y => ∃ (d1 e1 : List Sm) , k = e1.length ∧ F = d1 ++ e1 ∧ e1.all (seeN vs ay ps) = b ∧ Y = ⟨[(0, .d (.sl 7 (sms F))), (1, .d (.sl 1 (strs vs))), (2, .d (.sl 1 (strs ay))), (3, .d (.sl 7 (pcs ps))), (9, .d (num d1.length))], []⟩) (F.length) (⟨[], F, rfl, rfl, hG, rfl⟩) ?_; clear hG; rintro k Y ⟨d1, e1, rfl, hl1, hG, rfl⟩
 have hll1 : (sms F).length = d1.length + e1.length := by rw [sms_len2, hl1, List.length_append]
 have hdl1 : d1.length + e1.length ≤ 1073741824 := by rw [hl1, List.length_append] at hn; exact hn
 refine awp_seq ?_; refine rgs fun E K J O => ?_; refine O _ (aN [0, 1, 2, 3, 9, 21] rfl rfl ?_); clear O J K E; refine awp_cond2 rfl (onB_intro (fun h1 => ?_) (fun h1 => ?_))
 ·have h1' := of_decide_eq_true h1
  rw [hll1] at h1'
  cases e1 with
  | nil => simp only [List.length_nil] at h1'; omega
  | cons x e1b =>
  obtain ⟨kind, name, proc, args, cond, body, els⟩ := x; subst hl1; simp only [List.length_cons] at hdl1; simp only [List.all_cons, seeN, kindN] at hG; have hwx := hF (.mk kind name proc args cond body els) (by simp); simp only [wtS] at hwx; have hal := wtL_len args; have hcl := condE_len cond
  have hwa : wtL (args ++ condE cond) ≤ 1000000000 := by rw [wtL_app]; have := condE_wt cond; omega
  have ht := termsOf_spec G kind name proc args cond body els (by omega) (by omega); refine awp_skip ?_; refine awp_seq ?_; refine awp_block ?_; refine rgs fun E K J O => ?_; refine And.intro (by omega) (Exists.intro _ (And.intro (sms_at2 rfl) ?_)); refine O _ (aN [0, 1, 2, 3, 9, 10] rfl rfl ?_); clear O J K E; refine rgs fun E K J O => ?_; show aCall _ _ _ _ _ _ _
  first
   | refine aR [] rfl rfl rfl (hasN_spec G vs name hv) rfl rfl rfl rfl ?_
   | refine aR [] rfl rfl rfl (hasN_spec G ay name ha) rfl rfl rfl rfl ?_
  refine O _ (aN [0, 1, 2, 3, 9, 10, 11] rfl rfl ?_); clear O J K E; refine rgs fun E K J O => ?_; show aCall _ _ _ _ _ _ _
  first
   | refine aR [] rfl rfl rfl (hasN_spec G vs name hv) rfl rfl rfl rfl ?_
   | refine aR [] rfl rfl rfl (hasN_spec G ay name ha) rfl rfl rfl rfl ?_
  refine O _ (aN [0, 1, 2, 3, 9, 10, 11, 12] rfl rfl ?_); clear O J K E; refine awp_cut (fun Z => Z = ⟨[(0, .d (.sl 7 (sms (d1 ++ .mk kind name proc args cond body els :: e1b)))), (1, .d (.sl 1 (strs vs))), (2, .d (.sl 1 (strs ay))), (3, .d (.sl 7 (pcs ps))), (9, .d (num d1.length)), (10, .box 0 0)], [.box 228 [.d (str kind), .d (str name), .d (str proc), .d (.sl 4 (exs args)), .d (.sl 1 (cnd cond)), .d (.sl 7 (sms body)), .d (.sl 7 (sms els))]]⟩ ∧ ((match (kind.toList == (⟨#[99, 97, 108, 108]⟩ : ByteArray).toList) with | true => decide (procJ proc ps 0 ≥ 0) | false => true) && (tmsN vs ay (args ++ condE cond) && e1b.all (seeN vs ay ps))) = b) ?_ ?_
  ·refine rgs fun E K J O => ?_
   refine onB_intro (fun h2 => ?_) (fun h2 => ?_)
   ·have hcF : (kind.toList == (⟨#[99, 97, 108, 108]⟩ : ByteArray).toList) = false := by rw [eq_of_beq h2]; kernel_rfl
    try simp only [h2] at hG
    refine onB_intro (fun h3 => ?_) (fun h3 => ?_)
    ·try simp only [Bool.not_eq_true'] at h3
     try simp only [h3, bn] at hG
     refine O _ (aN [0, 1, 2, 3, 9, 10, 61] rfl rfl ?_); clear O J K E; refine awp_cond rfl ?_; refine rgs fun E K J O => ?_; refine O _ (aN [8] rfl rfl ?_); clear O J K E; refine awp_ret ?_
     (try simp only [bn] at hG)
     subst hG; exact ⟨_, [], _, [.d (.s (.bool _))], rfl, rfl, rfl, rfl, rfl, PWs.refl _, rfl⟩
    try simp only [Bool.not_eq_false'] at h3
    try simp only [h3, bn] at hG
    refine onB_intro (fun h4 => ?_) (fun h4 => ?_)
    ·try simp only [h4, bn] at hG
     have z1 := eq_of_beq h2; rw [z1, show ((⟨#[115, 101, 116]⟩ : ByteArray).toList == (⟨#[112, 117, 116]⟩ : ByteArray).toList) = false from by kernel_rfl] at h4; cases h4
    try simp only [h4, bn] at hG
    refine O _ (aN [0, 1, 2, 3, 9, 10, 61] rfl rfl ?_); clear O J K E; refine awp_cond rfl ?_; refine awp_skip ?_; exact ⟨_, sub_norm (slots := [0, 1, 2, 3, 9, 10]) rfl rfl, rfl, by simp only [hcF, bn]; (try simp only [Bool.and_assoc] at hG); exact hG⟩
   try simp only [h2] at hG
   refine onB_intro (fun h3 => ?_) (fun h3 => ?_)
   ·have hcF : (kind.toList == (⟨#[99, 97, 108, 108]⟩ : ByteArray).toList) = false := by rw [eq_of_beq h3]; kernel_rfl
    try simp only [h3] at hG
    refine onB_intro (fun h4 => ?_) (fun h4 => ?_)
    ·try simp only [Bool.not_eq_true'] at h4
     try simp only [h4, bn] at hG
     refine O _ (aN [0, 1, 2, 3, 9, 10, 61] rfl rfl ?_); clear O J K E; refine awp_cond rfl ?_; refine rgs fun E K J O => ?_; refine O _ (aN [8] rfl rfl ?_); clear O J K E; refine awp_ret ?_
     (try simp only [bn] at hG)
     subst hG; exact ⟨_, [], _, [.d (.s (.bool _))], rfl, rfl, rfl, rfl, rfl, PWs.refl _, rfl⟩
    try simp only [Bool.not_eq_false'] at h4
    try simp only [h4, bn] at hG
    refine onB_intro (fun h5 => ?_) (fun h5 => ?_)
    ·try simp only [h5, bn] at hG
     have z1 := eq_of_beq h3; rw [z1, show ((⟨#[114, 101, 97, 100]⟩ : ByteArray).toList == (⟨#[112, 117, 116]⟩ : ByteArray).toList) = false from by kernel_rfl] at h5; cases h5
    try simp only [h5, bn] at hG
    refine O _ (aN [0, 1, 2, 3, 9, 10, 61] rfl rfl ?_); clear O J K E; refine awp_cond rfl ?_; refine awp_skip ?_; exact ⟨_, sub_norm (slots := [0, 1, 2, 3, 9, 10]) rfl rfl, rfl, by simp only [hcF, bn]; (try simp only [Bool.and_assoc] at hG); exact hG⟩
   try simp only [h3] at hG
   refine onB_intro (fun h4 => ?_) (fun h4 => ?_)
   ·have hpF : (kind.toList == (⟨#[112, 117, 116]⟩ : ByteArray).toList) = false := by rw [eq_of_beq h4]; kernel_rfl
    try simp only [hpF] at hG
    have hcF := h4
    try simp only [h4] at hG
    refine onB_intro (fun h5 => ?_) (fun h5 => ?_)
    ·try simp only [Bool.not_eq_true'] at h5
     try simp only [h5, bn] at hG
     refine O _ (aN [0, 1, 2, 3, 9, 10, 61] rfl rfl ?_); clear O J K E; refine awp_cond rfl ?_; refine rgs fun E K J O => ?_; refine O _ (aN [8] rfl rfl ?_); clear O J K E; refine awp_ret ?_
     (try simp only [bn] at hG)
     subst hG; exact ⟨_, [], _, [.d (.s (.bool _))], rfl, rfl, rfl, rfl, rfl, PWs.refl _, rfl⟩
    try simp only [Bool.not_eq_false'] at h5
    try simp only [h5, bn] at hG
    refine onB_intro (fun h6 => ?_) (fun h6 => ?_)
    ·try simp only [h6, bn] at hG
     have z1 := eq_of_beq h4; rw [z1, show ((⟨#[99, 97, 108, 108]⟩ : ByteArray).toList == (⟨#[112, 117, 116]⟩ : ByteArray).toList) = false from by kernel_rfl] at h6; cases h6
    try simp only [h6, bn] at hG
    refine O _ (aN [0, 1, 2, 3, 9, 10, 61] rfl rfl ?_); clear O J K E; refine awp_cond rfl ?_; refine awp_skip ?_; exact ⟨_, sub_norm (slots := [0, 1, 2, 3, 9, 10]) rfl rfl, rfl, by simp only [hcF]; (try simp only [Bool.and_assoc] at hG); exact hG⟩
   have hcF := h4
   try simp only [h4] at hG
   refine onB_intro (fun h5 => ?_) (fun h5 => ?_)
   ·try simp only [h5] at hG
    refine O _ (aN [0, 1, 2, 3, 9, 10, 61] rfl rfl ?_); clear O J K E; refine awp_cond2 rfl (onB_intro (fun h6 => ?_) (fun h6 => ?_))
    ·try simp only [Bool.not_eq_true'] at h6
     try simp only [h6, bn] at hG
     refine rgs fun E K J O => ?_; refine O _ (aN [8] rfl rfl ?_); clear O J K E; refine awp_ret ?_
     (try simp only [bn] at hG)
     subst hG; exact ⟨_, [], _, [.d (.s (.bool _))], rfl, rfl, rfl, rfl, rfl, PWs.refl _, rfl⟩
    try simp only [Bool.not_eq_false'] at h6
    try simp only [h6, bn] at hG
    refine awp_skip ?_; exact ⟨_, sub_norm (slots := [0, 1, 2, 3, 9, 10]) rfl rfl, rfl, by simp only [hcF, bn]; (try simp only [Bool.and_assoc] at hG); exact hG⟩
   try simp only [h5, bn] at hG
   refine O _ (aN [0, 1, 2, 3, 9, 10, 61] rfl rfl ?_); clear O J K E; refine awp_cond rfl ?_; refine awp_skip ?_; exact ⟨_, sub_norm (slots := [0, 1, 2, 3, 9, 10]) rfl rfl, rfl, by simp only [hcF, bn]; (try simp only [Bool.and_assoc] at hG); exact hG⟩
  clear hG; rintro Z ⟨rfl, hG⟩; refine awp_cut (fun Z => Z = ⟨[(0, .d (.sl 7 (sms (d1 ++ .mk kind name proc args cond body els :: e1b)))), (1, .d (.sl 1 (strs vs))), (2, .d (.sl 1 (strs ay))), (3, .d (.sl 7 (pcs ps))), (9, .d (num d1.length)), (10, .box 0 0)], [.box 228 [.d (str kind), .d (str name), .d (str proc), .d (.sl 4 (exs args)), .d (.sl 1 (cnd cond)), .d (.sl 7 (sms body)), .d (.sl 7 (sms els))]]⟩ ∧ (tmsN vs ay (args ++ condE cond) && e1b.all (seeN vs ay ps)) = b) ?_ ?_
  ·refine rgs fun E K J O => ?_
   refine onB_intro (fun h2 => ?_) (fun h2 => ?_)
   ·try simp only [Bool.not_eq_true', Bool.not_eq_false'] at h2
    try simp only [h2] at hG
    show aCall _ _ _ _ _ _ _
    refine aR [] rfl rfl rfl (procAt_spec G ps proc hp0) rfl rfl rfl rfl ?_; refine O _ (aN [0, 1, 2, 3, 9, 10, 71] rfl rfl ?_); clear O J K E; refine awp_cond2 rfl (onB_intro (fun h3 => ?_) (fun h3 => ?_))
    ·have hge : decide (procJ proc ps 0 ≥ 0) = false := by first | exact decide_eq_true (by have := of_decide_eq_false h3; omega) | exact decide_eq_false (by have := of_decide_eq_true h3; omega)
     simp only [hge, bn] at hG; refine rgs fun E K J O => ?_; refine O _ (aN [8] rfl rfl ?_); clear O J K E; refine awp_ret ?_
     (try simp only [bn] at hG)
     subst hG; exact ⟨_, [], _, [.d (.s (.bool _))], rfl, rfl, rfl, rfl, rfl, PWs.refl _, rfl⟩
    have hge : decide (procJ proc ps 0 ≥ 0) = true := by first | exact decide_eq_true (by have := of_decide_eq_false h3; omega) | exact decide_eq_false (by have := of_decide_eq_true h3; omega)
    simp only [hge, bn] at hG; refine awp_skip ?_; exact ⟨_, sub_norm (slots := [0, 1, 2, 3, 9, 10]) rfl rfl, rfl, hG⟩
   try simp only [Bool.not_eq_true', Bool.not_eq_false'] at h2
   try simp only [h2, bn] at hG
   refine O _ (aN [0, 1, 2, 3, 9, 10, 71] rfl rfl ?_); clear O J K E; refine awp_cond rfl ?_; refine awp_skip ?_; exact ⟨_, sub_norm (slots := [0, 1, 2, 3, 9, 10]) rfl rfl, rfl, hG⟩
  clear hG; rintro Z ⟨rfl, hG⟩; generalize hQ : args ++ condE cond = Q at *
  have hq : Q.length ≤ 1073741824 := by have := wtL_len Q; omega
  refine rgs fun E K J O => ?_; show aCall _ _ _ _ _ _ _; refine aR [] rfl rfl rfl ht rfl rfl rfl rfl ?_; refine O _ (aN [0, 1, 2, 3, 9, 13] rfl rfl ?_); clear O J K E; refine rgs fun E K J O => ?_; refine O _ (aN [0, 1, 2, 3, 9, 13, 14] rfl rfl ?_); clear O J K E; refine awp_block ?_; refine awp_loop (fun k Y => ∃ (d2 e2 : List Ex) , k = e2.length ∧ Q = d2 ++ e2 ∧ (tmsN vs ay e2 && e1b.all (seeN vs ay ps)) = b ∧ Y = ⟨[(0, .d (.sl 7 (sms (d1 ++ .mk kind name proc args cond body els :: e1b)))), (1, .d (.sl 1 (strs vs))), (2, .d (.sl 1 (strs ay))), (3, .d (.sl 7 (pcs ps))), (9, .d (num d1.length)), (13, .d (.sl 4 (exs Q))), (14, .d (num d2.length))], [.box 228 [.d (str kind), .d (str name), .d (str proc), .d (.sl 4 (exs args)), .d (.sl 1 (cnd cond)), .d (.sl 7 (sms body)), .d (.sl 7 (sms els))]]⟩) (Q.length) (⟨[], Q, rfl, rfl, hG, rfl⟩) ?_; clear hG; rintro k Y ⟨d2, e2, rfl, hl2, hG, rfl⟩
  have hll2 : (exs Q).length = d2.length + e2.length := by rw [ex_len, hl2, List.length_append]
  have hdl2 : d2.length + e2.length ≤ 1073741824 := by rw [hl2, List.length_append] at hq; exact hq
  refine awp_seq ?_; refine rgs fun E K J O => ?_; refine O _ (aN [0, 1, 2, 3, 9, 13, 14, 77] rfl rfl ?_); clear O J K E; refine awp_cond2 rfl (onB_intro (fun h2 => ?_) (fun h2 => ?_))
  ·have h2' := of_decide_eq_true h2
   rw [hll2] at h2'
   cases e2 with
   | nil => simp only [List.length_nil] at h2'; omega
   | cons x e2b =>
   obtain ⟨p1, n1, m1, l1⟩ := x; subst hl2; simp only [List.length_cons] at hdl2; simp only [tmsN] at hG; refine awp_skip ?_; refine awp_seq ?_; refine awp_block ?_; refine rgs fun E K J O => ?_; refine And.intro (by omega) (Exists.intro _ (And.intro (exs_at rfl) ?_))
   show aCall _ _ _ _ _ _ _
   refine aR [] rfl rfl rfl (rterm_all G vs ay hv ha _ (.mk p1 n1 m1 l1) (Nat.le_refl _) (by have := wtL_mem (l := d2 ++ .mk p1 n1 m1 l1 :: e2b) (x := .mk p1 n1 m1 l1) (by simp); omega)) rfl rfl rfl rfl ?_; refine O _ (aN [0, 1, 2, 3, 9, 13, 14, 15] rfl rfl ?_); clear O J K E; refine rgs fun E K J O => ?_; refine O _ (aN [0, 1, 2, 3, 9, 13, 14, 88] rfl rfl ?_); clear O J K E; refine awp_cond2 rfl (onB_intro (fun h3 => ?_) (fun h3 => ?_))
   ·try simp only [Bool.not_eq_true'] at h3
    try simp only [h3, bn] at hG
    refine rgs fun E K J O => ?_; refine O _ (aN [8] rfl rfl ?_); clear O J K E; refine awp_ret ?_
    (try simp only [bn] at hG)
    subst hG; exact ⟨_, [], _, [.d (.s (.bool _))], rfl, rfl, rfl, rfl, rfl, PWs.refl _, rfl⟩
   try simp only [Bool.not_eq_false'] at h3
   try simp only [h3, bn] at hG
   refine awp_skip ?_; refine rgn fun E K J O => ?_; refine O _ ?_; clear O J K E; exact ⟨_, Nat.lt_succ_self _, _, sub_norm (slots := [0, 1, 2, 3, 9, 13, 14]) rfl rfl, d2 ++ [.mk p1 n1 m1 l1], e2b, rfl, by simp, hG, by rw [List.length_append, wrapId (by omega) (by omega)]; rfl⟩
  have h2' := of_decide_eq_false h2; rw [hll2] at h2'; obtain rfl : e2 = [] := List.eq_nil_of_length_eq_zero (by omega); simp only [tmsN] at hG; refine awp_exit ?_; refine awp_norm [0, 1, 2, 3, 9] rfl rfl ?_; refine rgn fun E K J O => ?_; refine O _ ?_; clear O J K E; exact ⟨_, Nat.lt_succ_self _, _, sub_pick (L := []) (slots := [0, 1, 2, 3, 9]) rfl rfl rfl rfl rfl, d1 ++ [.mk kind name proc args cond body els], e1b, rfl, by simp, hG, by rw [List.length_append, wrapId (by omega) (by omega)]; rfl⟩
 have h1' := of_decide_eq_false h1; rw [hll1] at h1'; obtain rfl : e1 = [] := List.eq_nil_of_length_eq_zero (by omega); simp only [List.all_nil] at hG; refine awp_exit ?_; refine awp_norm [] rfl rfl ?_; refine rgs fun E K J O => ?_; refine O _ (aN [8] rfl rfl ?_); clear O J K E; refine awp_ret ?_
 (try simp only [bn] at hG)
 subst hG; exact ⟨_, [], _, [.d (.s (.bool _))], rfl, rfl, rfl, rfl, rfl, PWs.refl _, rfl⟩
end
end Go.Abs
end
section
namespace Go.Abs
open Go Go.Proofs
attribute [local irreducible] aCall AWp Sub Spec
theorem procJ_at (v : ByteArray) : ∀ (l : List Pc) (i : Nat), procJ v l i ≥ 0 → ∃ (j : Nat) (f : Pc), l[j]? = some f ∧ procJ v l i = ((i + j : Nat) : Int)
 | [], i, h => absurd h (by simp [procJ])
 | f :: r, i, h => by
  simp only [procJ] at h ⊢
  cases hq : (f.name.toList == v.toList) with
  | true => exact ⟨0, f, rfl, rfl⟩
  | false =>
   rw [hq] at h; obtain ⟨j, g, h1, h2⟩ := procJ_at v r (i + 1) h; exact ⟨j + 1, g, h1, by simp only; rw [h2]; omega⟩
/-- What the procedure of a name wants. -/
def parms (ps : List Pc) (v : ByteArray) : List ByteArray := match ps[(procJ v ps 0).toNat]? with
 | some f => f.params
 | none => []
theorem proc_at {ps : List Pc} {v : ByteArray} (h : procJ v ps 0 ≥ 0) : ∃ f : Pc, 0 ≤ procJ v ps 0 ∧ procJ v ps 0 < (pcs ps).length ∧ (pcs ps)[(procJ v ps 0).toNat]? = some f.cs ∧ parms ps v = f.params := by
 obtain ⟨j, f, h1, h2⟩ := procJ_at v ps 0 h
 have hj : (procJ v ps 0).toNat = j := by omega
 obtain ⟨hl, hf⟩ := List.getElem?_eq_some_iff.1 h1; refine ⟨f, h, by rw [pcs_length]; omega, ?_, ?_⟩
 ·rw [hj]
  simp only [pcs, List.getElem?_map, h1, Option.map_some]
 unfold parms
 rw [hj, h1]
/-- Does a call hand over what is wanted? -/
def seeC (ps : List Pc) : Sm → Bool
 | .mk kind _ proc args _ _ _ => match (kind.toList == (⟨#[99, 97, 108, 108]⟩ : ByteArray).toList) with
  | true => (((exs args).length : Int) == ((strs (parms ps proc)).length : Int))
  | false => true
def NmOk (ps : List Pc) : Sm → Prop
 | .mk kind _ proc _ _ _ _ => (kind.toList == (⟨#[99, 97, 108, 108]⟩ : ByteArray).toList) = true → procJ proc ps 0 ≥ 0
section
variable (G : Glob)
theorem call_not (vs ay : List ByteArray) (ps : List Pc) (_hp0 : ps.length ≤ 1073741824) (kind name proc : ByteArray) (args : List Ex) (cond : List (List Ts)) (body els : List Sm) (hk : (kind.toList == (⟨#[99, 97, 108, 108]⟩ : ByteArray).toList) = false) (ok : Bool) : Spec Tryz.prog G 170 [.d (.agg (Sm.mk kind name proc args cond body els).cs), .box 0 0, .box 1 0] (WkR vs ay ps ok) (.ret (.tup [])) (WkR vs ay ps ok) := by
 refine spec_of_awp2 TT_ok (N := 24) Tryz.func170 rfl (by rfl) (Nat.le_refl _) rfl ?_; refine rgs fun E K J O => ?_; refine O _ (aN [1, 2, 3] rfl rfl ?_); clear O J K E; refine rgs fun E K J O => ?_; refine O _ (aN [1, 2, 3, 6] rfl rfl ?_); clear O J K E; refine awp_cond2 rfl (onB_intro (fun h1 => ?_) (fun h1 => ?_))
 ·rw [hk] at h1
  cases h1
 refine awp_skip ?_; exact ⟨_, [0, 1], _, [], rfl, rfl, rfl, rfl, rfl, PWs.nil, rfl⟩
def p170_2 : Plan := (.load 0 (.take 1 (.take 2 (.load 3 (.take 4 (.take 5 (.load 6 (.load 7 (.take 8 (.load 9 (.one 10 (.take 11 (.take 12 (.one 13 (.take 14 (.take 15 (.take 16 (.one 17 .done))))))))))))))))))
theorem call_true (vs ay : List ByteArray) (ps : List Pc) (hp0 : ps.length ≤ 1073741824) (kind name proc : ByteArray) (args : List Ex) (cond : List (List Ts)) (body els : List Sm) (hk : (kind.toList == (⟨#[99, 97, 108, 108]⟩ : ByteArray).toList) = true) (hj0 : 0 ≤ procJ proc ps 0) (_hj1 : procJ proc ps 0 < (pcs ps).length) (f : Pc) (hat0 : (pcs ps)[(procJ proc ps 0).toNat]? = some f.cs) : Spec Tryz.prog G 170 [.d (.agg (Sm.mk kind name proc args cond body els).cs), .box 0 0, .box 1 0] (WkR vs ay ps true) (.ret (.tup [])) (WkR vs ay ps (((exs args).length : Int) == ((strs f.params).length : Int))) := by
 obtain ⟨nm, pr, bd, ⟨o1, n1, m1, l1⟩⟩ := f; have hat := hat0; refine spec_of_awp2 TT_ok (N := 24) Tryz.func170 rfl (by rfl) (Nat.le_refl _) rfl ?_; refine rgs fun E K J O => ?_; refine O _ (aN [1, 2, 3] rfl rfl ?_); clear O J K E; refine rgs fun E K J O => ?_; refine O _ (aN [1, 2, 3, 6] rfl rfl ?_); clear O J K E; refine awp_cond2 rfl (onB_intro (fun h1 => ?_) (fun h1 => ?_))
 ·refine (awp_draw TT_ok mixed p170_2 [17] (fun _ => true) (by kernel_rfl) fun E K J O => ?_)
  show aCall _ _ _ _ _ _ _
  refine aR [] rfl rfl rfl (proc_spec G vs ay ps proc hp0) rfl rfl rfl rfl ?_; refine And.intro (by omega) (Exists.intro _ (And.intro hat ?_)); refine O _ ?_; clear O J K E; exact ⟨_, [0, 1], _, [], rfl, rfl, rfl, rfl, rfl, PWs.nil, rfl⟩
 rw [hk] at h1; cases h1
theorem call_false (vs ay : List ByteArray) (ps : List Pc) (_hp0 : ps.length ≤ 1073741824) (kind name proc : ByteArray) (args : List Ex) (cond : List (List Ts)) (body els : List Sm) (hk : (kind.toList == (⟨#[99, 97, 108, 108]⟩ : ByteArray).toList) = true) (_hj0 : 0 ≤ procJ proc ps 0) (_hj1 : procJ proc ps 0 < (pcs ps).length) (f : Pc) (hat0 : (pcs ps)[(procJ proc ps 0).toNat]? = some f.cs) : Spec Tryz.prog G 170 [.d (.agg (Sm.mk kind name proc args cond body els).cs), .box 0 0, .box 1 0] (WkR vs ay ps false) (.ret (.tup [])) (WkR vs ay ps false) := by
 obtain ⟨nm, pr, bd, ⟨o1, n1, m1, l1⟩⟩ := f; have hat := hat0; refine spec_of_awp2 TT_ok (N := 24) Tryz.func170 rfl (by rfl) (Nat.le_refl _) rfl ?_; refine rgs fun E K J O => ?_; refine O _ (aN [1, 2, 3] rfl rfl ?_); clear O J K E; refine rgs fun E K J O => ?_; refine O _ (aN [1, 2, 3, 6] rfl rfl ?_); clear O J K E; refine awp_cond2 rfl (onB_intro (fun h1 => ?_) (fun h1 => ?_))
 ·refine (awp_draw TT_ok mixed p170_2 [17] (fun _ => true) (by kernel_rfl) fun E K J O => ?_)
  refine O _ ?_; clear O J K E; exact ⟨_, [0, 1], _, [], rfl, rfl, rfl, rfl, rfl, PWs.nil, rfl⟩
 rw [hk] at h1; cases h1
theorem seeCall_spec (vs ay : List ByteArray) (ps : List Pc) (hp0 : ps.length ≤ 1073741824) (s : Sm) (hN : NmOk ps s) (ok : Bool) : Spec Tryz.prog G 170 [.d (.agg s.cs), .box 0 0, .box 1 0] (WkR vs ay ps ok) (.ret (.tup [])) (WkR vs ay ps (ok && seeC ps s)) := by
 obtain ⟨kind, name, proc, args, cond, body, els⟩ := s; simp only [NmOk] at hN; simp only [seeC]
 cases hk : (kind.toList == (⟨#[99, 97, 108, 108]⟩ : ByteArray).toList) with
 | false => rw [Bool.and_true]; exact call_not G vs ay ps hp0 kind name proc args cond body els hk ok
 | true =>
  obtain ⟨f, hj0, hj1, hat, hpm⟩ := proc_at (hN hk); simp only [hpm]
  cases ok with
  | true => rw [Bool.true_and]; exact call_true G vs ay ps hp0 kind name proc args cond body els hk hj0 hj1 f hat
  | false => exact call_false G vs ay ps hp0 kind name proc args cond body els hk hj0 hj1 f hat
theorem calls_spec (vs ay : List ByteArray) (ps : List Pc) (hp0 : ps.length ≤ 1073741824) (l : List Sm) (hw : wtB l ≤ 500000000) (hN : ∀ x, x ∈ flatB l → NmOk ps x) : Spec Tryz.prog G 101 [.d (.agg (PlC vs ay ps)), .d (.sl 7 (sms l))] [] (.ret (.d (.s (.bool ((flatB l).all (seeC ps)))))) [] := by
 have hk := walk_all G vs ay ps 170 (seeC ps) (fuB l + 1) l true (Nat.lt_succ_self _) (by omega) (fun x hx ok => seeCall_spec G vs ay ps hp0 x (hN x hx) ok); rw [Bool.true_and] at hk; refine spec_of_awp2 TT_ok (N := 10) Tryz.func101 rfl (by rfl) (Nat.le_refl _) rfl ?_; refine rgs fun E K J O => ?_; refine O _ (aN [1, 2] rfl rfl ?_); clear O J K E; refine rgs fun E K J O => ?_; refine O _ (aN [1, 2, 5] rfl rfl ?_); clear O J K E; refine rgs fun E K J O => ?_; show aCall _ _ _ _ _ _ _; refine aR [1, 0] rfl rfl rfl hk rfl rfl rfl rfl ?_; refine O _ (aN [5] rfl rfl ?_); clear O J K E; refine rgs fun E K J O => ?_; refine O _ (aN [4] rfl rfl ?_); clear O J K E; refine awp_ret ?_; exact ⟨_, [], _, [.d (.s (.bool _))], rfl, rfl, rfl, rfl, rfl, PWs.refl _, rfl⟩
def p105_5 : Plan := (.take 0 (.take 1 (.take 2 (.take 3 (.load 4 (.take 5 (.take 6 (.take 7 (.take 8 (.take 9 (.take 10 (.load 11 (.take 12 (.take 13 (.take 14 (.take 15 (.take 16 (.take 17 (.take 18 (.load 19 (.one 20 (.take 21 (.take 22 (.one 23 (.take 24 (.take 25 (.take 26 .done)))))))))))))))))))))))))))
theorem stmtCalls_spec (ps : List Pc) (hp0 : ps.length ≤ 1073741824) (l : List Sm) (hw : wtB l ≤ 500000000) (hN : ∀ x, x ∈ flatB l → NmOk ps x) : Spec Tryz.prog G 105 [.d (.sl 7 (sms l)), .d (.sl 7 (pcs ps))] [] (.ret (.d (.s (.bool ((flatB l).all (seeC ps)))))) [] := by
 have hfl := flat_spec G l (by omega); have hn0 := flat_len l; obtain ⟨F, hFe⟩ : ∃ F, flatB l = F := ⟨_, rfl⟩; rw [hFe] at hfl hn0 hN; have hF := hN
 have hn : F.length ≤ 1073741824 := by omega
 obtain ⟨b, hG⟩ : ∃ b, (flatB l).all (seeC ps) = b := ⟨_, rfl⟩; rw [hG]; rw [hFe] at hG; clear hFe hn0 hN; refine spec_of_awp2 TT_ok (N := 41) Tryz.func105 rfl (by rfl) (Nat.le_refl _) rfl ?_; refine rgs fun E K J O => ?_; refine O _ (aN [0, 1] rfl rfl ?_); clear O J K E; refine rgs fun E K J O => ?_; show aCall _ _ _ _ _ _ _; refine aR [] rfl rfl rfl hfl rfl rfl rfl rfl ?_; refine O _ (aN [0, 1] rfl rfl ?_); clear O J K E; refine awp_seq ?_; refine rgs fun E K J O => ?_; refine O _ (aN [0, 1, 5] rfl rfl ?_); clear O J K E; refine awp_block ?_; refine awp_loop (fun k Y => ∃ (d1 e1 : List Sm) , k = e1.length ∧ F = d1 ++ e1 ∧ e1.all (seeC ps) = b ∧ Y = ⟨[(0, .d (.sl 7 (sms F))), (1, .d (.sl 7 (pcs ps))), (5, .d (num d1.length))], []⟩) (F.length) (⟨[], F, rfl, rfl, hG, rfl⟩) ?_; clear hG; rintro k Y ⟨d1, e1, rfl, hl1, hG, rfl⟩
 have hll1 : (sms F).length = d1.length + e1.length := by rw [sms_len2, hl1, List.length_append]
 have hdl1 : d1.length + e1.length ≤ 1073741824 := by rw [hl1, List.length_append] at hn; exact hn
 refine awp_seq ?_; refine rgs fun E K J O => ?_; refine O _ (aN [0, 1, 5, 11] rfl rfl ?_); clear O J K E; refine awp_cond2 rfl (onB_intro (fun h1 => ?_) (fun h1 => ?_))
 ·have h1' := of_decide_eq_true h1
  rw [hll1] at h1'
  cases e1 with
  | nil => simp only [List.length_nil] at h1'; omega
  | cons x e1b =>
  obtain ⟨kind, name, proc, args, cond, body, els⟩ := x; subst hl1; simp only [List.length_cons] at hdl1; simp only [List.all_cons, seeC] at hG; have hx := hF (.mk kind name proc args cond body els) (by simp); simp only [NmOk] at hx; refine awp_skip ?_; refine awp_seq ?_; refine awp_block ?_; refine awp_seq ?_; refine (awp_draw TT_ok mixed p105_5 [] (fun _ => true) (by kernel_rfl) fun E K J O => ?_); refine And.intro (by omega) (Exists.intro _ (And.intro (sms_at2 rfl) ?_)); refine onB_intro (fun h2 => ?_) (fun h2 => ?_)
  ·obtain ⟨f, hj0, hj1, hat, hpm⟩ := proc_at (hx h2)
   obtain ⟨nm, pr, bd, ⟨o1, n1, m1, l1⟩⟩ := f; simp only [h2, hpm] at hG; refine And.intro (by omega) (Exists.intro _ (And.intro (sms_at2 rfl) ?_)); refine And.intro (by omega) (Exists.intro _ (And.intro (sms_at2 rfl) ?_))
   show aCall _ _ _ _ _ _ _
   refine aR [] rfl rfl rfl (procAt_spec G ps proc hp0) rfl rfl rfl rfl ?_; refine And.intro (by omega) (Exists.intro _ (And.intro hat ?_)); refine O _ (aN [0, 1, 5, 40] rfl rfl ?_); clear O J K E; refine awp_cond2 rfl (onB_intro (fun h3 => ?_) (fun h3 => ?_))
   ·have hz : (((exs args).length : Int) == ((strs pr).length : Int)) = false := by first | simpa using h3 | (cases q : (((exs args).length : Int) == ((strs pr).length : Int)) <;> simp_all)
    simp only [hz, bn] at hG; refine rgs fun E K J O => ?_; refine O _ (aN [4] rfl rfl ?_); clear O J K E; refine awp_ret ?_
    (try simp only [bn] at hG)
    subst hG; exact ⟨_, [], _, [.d (.s (.bool _))], rfl, rfl, rfl, rfl, rfl, PWs.refl _, rfl⟩
   have hz : (((exs args).length : Int) == ((strs pr).length : Int)) = true := by first | simpa using h3 | (cases q : (((exs args).length : Int) == ((strs pr).length : Int)) <;> simp_all)
   simp only [hz, bn] at hG; refine awp_skip ?_; refine rgn fun E K J O => ?_; refine O _ ?_; clear O J K E; exact ⟨_, Nat.lt_succ_self _, _, sub_norm (slots := [0, 1, 5]) rfl rfl, d1 ++ [.mk kind name proc args cond body els], e1b, rfl, by simp, hG, by rw [List.length_append, wrapId (by omega) (by omega)]; rfl⟩
  simp only [h2, bn] at hG; refine O _ (aN [0, 1, 5, 40] rfl rfl ?_); clear O J K E; refine awp_cond rfl ?_; refine awp_skip ?_; refine rgn fun E K J O => ?_; refine O _ ?_; clear O J K E; exact ⟨_, Nat.lt_succ_self _, _, sub_norm (slots := [0, 1, 5]) rfl rfl, d1 ++ [.mk kind name proc args cond body els], e1b, rfl, by simp, hG, by rw [List.length_append, wrapId (by omega) (by omega)]; rfl⟩
 have h1' := of_decide_eq_false h1; rw [hll1] at h1'; obtain rfl : e1 = [] := List.eq_nil_of_length_eq_zero (by omega); simp only [List.all_nil] at hG; refine awp_exit ?_; refine awp_norm [] rfl rfl ?_; refine rgs fun E K J O => ?_; refine O _ (aN [4] rfl rfl ?_); clear O J K E; refine awp_ret ?_
 (try simp only [bn] at hG)
 subst hG; exact ⟨_, [], _, [.d (.s (.bool _))], rfl, rfl, rfl, rfl, rfl, PWs.refl _, rfl⟩
end
end Go.Abs
end
section
namespace Go.Abs
open Go Go.Proofs
attribute [local irreducible] aCall AWp Sub Spec
def ConcatOk (G : Glob) : Prop := ∀ a b : List ByteArray, a.length + b.length ≤ 1000000000 → Spec Tryz.prog G 98 [.d (.sl 1 [[.sl 1 (strs a)], [.sl 1 (strs b)]])] [] (.ret (.d (.sl 1 (strs (a ++ b))))) []
/-- Check's program, and the names of its arrays. -/
def AtR (vars : List ByteArray) (arrays : List Ar) (procs : List Pc) (main : List Sm) (an : List ByteArray) : List Row := [.box 28 [.d (.sl 1 (strs vars)), .d (.sl 2 (ars arrays)), .d (.sl 7 (pcs procs)), .d (.sl 7 (sms main))], .box 23 [.d (.sl 1 (strs an))]]
theorem pcs_take (l : List Pc) (i : Nat) : (pcs l).take i = pcs (l.take i) := by simp [pcs]
section
variable (G : Glob)
theorem at_all (vars : List ByteArray) (arrays : List Ar) (procs : List Pc) (main : List Sm) (an : List ByteArray) : Spec Tryz.prog G 97 [.d (num procs.length), .box 0 0, .box 1 0] (AtR vars arrays procs main an) (.ret (.d (.agg (PlC vars an procs)))) (AtR vars arrays procs main an) := by
 refine spec_of_awp2 TT_ok (N := 32) Tryz.func97 rfl (by rfl) (Nat.le_refl _) rfl ?_; refine rgs fun E K J O => ?_; refine O _ (aN [0, 1, 2, 4] rfl rfl ?_); clear O J K E; refine awp_seq ?_; refine rgs fun E K J O => ?_; refine O _ (aN [0, 1, 2, 4, 9] rfl rfl ?_); clear O J K E; refine awp_cond2 rfl (onB_intro (fun h1 => ?_) (fun h1 => ?_))
 ·refine rgs fun E K J O => ?_; refine O _ (aN [4] rfl rfl ?_); clear O J K E; refine awp_ret ?_
  exact ⟨_, [0, 1], _, [.d (.agg (PlC vars an procs))], rfl, rfl, rfl, rfl, rfl, PWs.refl _, rfl⟩
 rw [pcs_length] at h1
 simp at h1
def p97_3 : Plan := (.take 0 (.load 1 (.take 2 (.load 3 (.take 4 (.take 5 (.take 6 (.load 7 (.load 10 (.take 11 (.load 12 (.take 13 (.take 14 (.one 8 (.one 9 (.one 15 (.one 16 .done)))))))))))))))))
theorem at_one (hC : ConcatOk G) (vars : List ByteArray) (arrays : List Ar) (procs : List Pc) (main : List Sm) (an : List ByteArray) (i : Nat) (hi : i < procs.length) (_hn : procs.length ≤ 1000000000) (f : Pc) (hf : procs[i]? = some f) (hl : vars.length + f.params.length ≤ 1000000000) : Spec Tryz.prog G 97 [.d (num i), .box 0 0, .box 1 0] (AtR vars arrays procs main an) (.ret (.d (.agg (PlC (vars ++ f.params) an (procs.take i))))) (AtR vars arrays procs main an) := by
 have hat : (pcs procs)[(i : Int).toNat]? = some f.cs := by rw [Int.toNat_natCast]; simp [pcs, List.getElem?_map, hf]
 obtain ⟨nm, pr, bd, ⟨o1, n1, m1, l1⟩⟩ := f; rw [show PlC (vars ++ pr) an (procs.take i) = [.sl 1 (strs (vars ++ pr)), .sl 1 (strs an), .sl 7 ((pcs procs).take i)] from by rw [PlC, pcs_take]]; refine spec_of_awp2 TT_ok (N := 32) Tryz.func97 rfl (by rfl) (Nat.le_refl _) rfl ?_; refine rgs fun E K J O => ?_; refine O _ (aN [0, 1, 2, 4] rfl rfl ?_); clear O J K E; refine awp_seq ?_; refine rgs fun E K J O => ?_; refine O _ (aN [0, 1, 2, 4, 9] rfl rfl ?_); clear O J K E; refine awp_cond2 rfl (onB_intro (fun h1 => ?_) (fun h1 => ?_))
 ·have q := eq_of_beq h1
  rw [pcs_length] at q; omega
 refine awp_skip ?_; refine awp_seq ?_; refine (awp_draw TT_ok mixed p97_3 [16] (fun _ => true) (by kernel_rfl) fun E K J O => ?_); refine And.intro (by omega) (Exists.intro _ (And.intro hat ?_)); refine Exists.intro i (And.intro rfl (And.intro (by rw [pcs_length]; omega) ?_))
 show aCall _ _ _ _ _ _ _
 refine aR [] rfl rfl rfl (hC vars pr hl) rfl rfl rfl rfl ?_; refine O _ (aN [4] rfl rfl ?_); clear O J K E; refine awp_ret ?_; exact ⟨_, [0, 1], _, [.d (.agg [.sl 1 (strs (vars ++ pr)), .sl 1 (strs an), .sl 7 ((pcs procs).take i)])], rfl, rfl, rfl, rfl, rfl, PWs.refl _, rfl⟩
end
end Go.Abs
end
section
namespace Go.Proofs
open Go Go.RowKit Go.Shelf Go.Sort
theorem zs_enc (l : List (List UInt8)) : (l.map fun x => (⟨x.toArray⟩ : ByteArray)).map Value.string = l.map encStr := by
  rw [List.map_map]; exact List.map_congr_left fun x _ => rfl
set_option maxHeartbeats 2000000 in
set_option maxRecDepth 100000 in
theorem Tryz.twice_tail (arg : Value) (ss ts : List (List UInt8)) (n : Nat) (w : World) (hts : ss.mergeSort (fun x y => decide (x ≤ y)) = ts) (hlen0 : ss.length = n) (hn : n ≤ 1000000)
    (hclone : Calls Tryz.prog 95 #[arg] w fun e w' => ∃ v', e = .returned v' ∧ w'.ownsRow w.heap.size 9 1 v' n (ss.map encStr) ∧ v' ≠ .slice none 0 0 ∧ Below w.heap.size w w') :
    Calls Tryz.prog 96 #[arg] w fun e w' => e = .returned (.bool (decide ((Lib.compact ts).length < n))) ∧ Below w.heap.size w w' := by
  have hl2 : ts.length = n := by rw [← hts, List.length_mergeSort, hlen0]
  go_enter Tryz.func96, Tryz.ntmps96
  go_wp2_with (first
    | (go_at_call 95; refine hclone.mono ?_; rintro e w1 ⟨v1, rfl, hown, hnn, hbel⟩
       obtain ⟨g, cap, rfl, hbg, hgl, hncap, hcm, hlen, hH⟩ := Lib.holds_of_ownsRow hown hnn; have hsort := Tryz.slices_Sort_string g 0 cap ss w1 hH hgl (by omega); rw [hlen, hts] at hsort; have X : Aside (Below w.heap.size w w1 ∧ w.heap.size ≤ g ∧ g < w1.heap.size ∧ n ≤ cap ∧ cap ≤ maxLen ∧ Holds encStr w1 g 0 ss.toArray) := ⟨hbel, hbg, hgl, hncap, hcm, hH⟩
       clear hown hbel hH hnn hclone)
    | (go_at_call 115; refine hsort.mono ?_; rintro e w2 ⟨rfl, nn, os, rfl⟩
       have hH2 : Holds encStr (grow (putRow encStr (Sort.ahead w1 nn) g 0 ts.toArray) os) g 0 ts.toArray :=
         holds_grow encStr _ os g 0 _ (by simpa [putRow, mapBlock, Sort.ahead] using X.out.2.2.1) (holds_putRow encStr _ g 0 _ _ (holds_ahead encStr w1 nn g 0 _ X.out.2.2.2.2.2) (by simp [hl2, hlen0]))
       have hb2 : Below w.heap.size w (grow (putRow encStr (Sort.ahead w1 nn) g 0 ts.toArray) os) := X.out.1.grown (grownBy_sorted _) X.out.1.size (fun j hj => by cases hj; exact X.out.2.1)
       have hclone2 := Tryz.slices_Clone_string g 0 n cap (ts.map fun x => (⟨x.toArray⟩ : ByteArray)) (grow (putRow encStr (Sort.ahead w1 nn) g 0 ts.toArray) os) (by simp [hl2]) (by omega) (fun j hj => by
         have hj' : j < ts.toArray.size := by simpa using hj
         have := (hH2 j hj').1
         simpa [encStr, List.getD_eq_getElem?_getD, List.getElem?_eq_getElem (show j < ts.length by simpa using hj)] using this)
       rw [List.take_of_length_le (by simp [hl2]), zs_enc] at hclone2; generalize hw2 : grow (putRow encStr (Sort.ahead w1 nn) g 0 ts.toArray) os = w2 at *
       clear hH2 hsort)
    | (go_at_call 95; refine hclone2.mono ?_; rintro e w3 ⟨v3, rfl, hown3, hnn3, hbel3⟩
       obtain ⟨g3, cap3, rfl, hbg3, hgl3, hncap3, hcm3, hlen3, hH3⟩ := Lib.holds_of_ownsRow hown3 hnn3; have hcomp := Tryz.slices_Compact_string g3 0 cap3 ts w3 hH3 (by omega) (by omega); rw [hl2] at hcomp; have Y : Aside (Below w.heap.size w w2 ∧ Below w2.heap.size w2 w3 ∧ w2.heap.size ≤ g3) := ⟨hb2, hbel3, hbg3⟩
       clear hown3 hbel3 hH3 hnn3 hclone2)
    | (go_at_call 162; refine hcomp.mono ?_; rintro e w4 ⟨rfl, q, rfl⟩))
  go_ret
  have h3 : Below w.heap.size w w3 := Y.out.1.trans (Y.out.2.1.mono Y.out.1.size); exact ⟨rfl, Lib.below_putRow h3 (Nat.le_trans Y.out.1.size Y.out.2.2)⟩
set_option maxHeartbeats 2000000 in
set_option maxRecDepth 100000 in
theorem Tryz.twice_nil (n c : Nat) (hn : n = 0) (w : World) : Calls Tryz.prog 96 #[.slice none n c] w fun e w' => e = .returned (.bool false) ∧ w' = w := by
  subst hn
  go_enter Tryz.func96, Tryz.ntmps96
  go_wp2_with (first
    | (go_at_call 95; refine (Tryz.slices_Clone_string_nil 0 c _).mono ?_; rintro e w' ⟨rfl, rfl⟩)
    | (go_at_call 115; refine (Any.slices_Sort_string_none Tryz.lays190 none 0 _).mono ?_; rintro e w' ⟨rfl, rfl⟩)
    | (go_at_call 95; refine (Tryz.slices_Clone_string_nil 0 0 _).mono ?_; rintro e w' ⟨rfl, rfl⟩)
    | (go_at_call 162; refine (Tryz.slices_Compact_string_empty none 0 _).mono ?_; rintro e w' ⟨rfl, rfl⟩))
  go_ret
  exact ⟨rfl, rfl⟩
end Go.Proofs
namespace Go.Abs
open Go Go.Proofs
/-- Is a name twice among names? -/
def dupB (l : List ByteArray) : Bool := !decide (l.map (·.data.toList)).Nodup
theorem strs_cells {lim : Nat → Nat} {w : World} {b : Nat} (xs : List ByteArray) (o : Nat) (h : VRow lim w b 1 o (strs xs)) : ∀ j, j < xs.length → w.cell? ⟨b, o + j, none⟩ = some (.string (xs.getD j ByteArray.empty)) := fun j hj => by
  have := strs_cell xs o h j xs[j] (List.getElem?_eq_getElem hj)
  simpa [List.getD_eq_getElem?_getD, List.getElem?_eq_getElem hj] using this
theorem twice_spec (G : Glob) (l : List ByteArray) (hl : l.length ≤ 1000000) : Spec Tryz.prog G 96 [.d (.sl 1 (strs l))] [] (.ret (.d (.s (.bool (dupB l))))) [] := by
  refine spec_of_grown Tryz.func96 rfl (by rfl) fun H lim w vs hrows hglob hvs => ?_; simp only [Vs, V, VD] at hvs; obtain ⟨v, us, rfl, ⟨A, n, c, rfl, hn, hnc, hc, hrow⟩, rfl⟩ := hvs
  have hn' : n = l.length := by rw [hn]; exact strs_length l
  have fin : ∀ b : Bool, ∀ (e : Ending) (w' : World), e = .returned (.bool b) ∧ RowKit.Below w.heap.size w w' → b = dupB l → (∃ v, e = .returned v ∧ ∀ lim', Fr (fun _ => False) lim w lim' w' → V H lim' w' (.d (.s (.bool (dupB l)))) v) ∧ RowKit.Below w.heap.size w w' := by
    rintro b e w' ⟨rfl, hb⟩ rfl; exact ⟨⟨_, rfl, fun lim' _ => by simp only [V, VD]⟩, hb⟩
  cases A with
  | none =>
    have h0 : n = 0 := by
      rcases Nat.eq_zero_or_pos n with q | q
      · exact q
      obtain ⟨b, o, e, _⟩ := hrow (by omega); cases e
    obtain rfl : l = [] := List.eq_nil_of_length_eq_zero (by omega); refine Calls.mono (Tryz.twice_nil n c h0 w) ?_; rintro e w' ⟨rfl, rfl⟩; exact fin false _ _ ⟨rfl, RowKit.Below.refl _ _⟩ rfl
  | some a =>
    have hcl : Calls Tryz.prog 95 #[.slice (some a) n c] w fun e w' => ∃ v', e = .returned v' ∧ w'.ownsRow w.heap.size 9 1 v' n ((l.map (·.data.toList)).map encStr) ∧ v' ≠ .slice none 0 0 ∧ RowKit.Below w.heap.size w w' := by
      rw [Lib.map_encStr]
      rcases Nat.eq_zero_or_pos n with q | q
      · subst q
        obtain rfl : l = [] := List.eq_nil_of_length_eq_zero (by omega); exact Tryz.slices_Clone_string_zero a c w
      obtain ⟨b, o, e, hr⟩ := hrow (by omega); cases e; have := Tryz.slices_Clone_string b o n c l w (by omega) (by omega) (strs_cells l o hr)
      rwa [List.take_of_length_le (by omega)] at this
    refine Calls.mono (Tryz.twice_tail _ (l.map (·.data.toList)) _ n w rfl (by simp [hn']) (by omega) hcl) ?_; intro e w' h; refine fin _ e w' h ?_; have := twice_pure (l.map (·.data.toList)); rw [List.length_map] at this; rw [hn', this]
    rfl
end Go.Abs
end
section
namespace Go.Proofs
open Go Go.RowKit
set_option maxHeartbeats 2000000 in
set_option maxRecDepth 100000 in
theorem Tryz.grow_some (n : Nat) (h0 : 0 < n) (hn : n ≤ 1000000000) (w : World) :
  Calls Tryz.prog 163 #[.slice none 0 0, .int .i64 n] w fun e w' => ∃ (cap : Nat) (cells : Array Value), e = .returned (.slice (some ⟨w.heap.size, 0, none⟩) 0 cap) ∧ cap ≤ maxLen ∧ cells.size = cap ∧ w' = w.drew.alloc (.cells cells 9) := by
 have hlt : ¬ ((n : Int) < 0) := by omega
 have hgt : (n : Int) > 0 := by omega
 have hb : Tryz.t9.bytes = 16 := by kernel_rfl
 have hns := nextslicecap_zero h0
 go_enter Tryz.func163, Tryz.ntmps163
 go_wp2
 all_goals rw [hb] at *
 all_goals try rw [hns] at *
 all_goals first
  | (exfalso; omega)
  | skip
 go_ret
 have hge := grownCap_ge w n 0 9; exact ⟨grownCap w n 0 9, rfl, grownCap_le_maxLen w n 0 9 (by simp only [maxLen]; omega), _, by simp [Builtin.zeroCells, grownCap] at hge ⊢; omega, rfl⟩
set_option maxHeartbeats 2000000 in
set_option maxRecDepth 100000 in
theorem Tryz.grow_none (w : World) : Calls Tryz.prog 163 #[.slice none 0 0, .int .i64 0] w fun e w' => e = .returned (.slice none 0 0) ∧ w' = w := by
 go_enter Tryz.func163, Tryz.ntmps163
 go_wp2
 go_ret
 exact ⟨rfl, rfl⟩
end Go.Proofs
namespace Go.Abs
open Go Go.Proofs
theorem Fr_drew_alloc {lim : Nat → Nat} {w : World} (o : Obj) (m : Nat) : Fr (fun _ => False) lim w (upd lim w.heap.size m) (w.drew.alloc o) := by
 refine ⟨rfl, rfl, rfl, by simp, fun b hb => ?_, fun b hb _ => ?_⟩
 ·rw [upd_other _ _ (by omega)]
  refine ⟨Nat.le_refl _, fun o' _ => ?_⟩; exact World.cell?_alloc_lt w.drew _ _ hb
 have := (Fr_alloc (lim := lim) (w := w) o m).same b hb (fun h => h); exact this
theorem grow_spec (G : Glob) (n : Nat) (hn : n ≤ 1000000000) : Spec Tryz.prog G 163 [.d (.s (.slice none 0 0)), .d (num n)] [] (.ret (.acc 0)) [.acc 9 1 []] := by
 refine ⟨enters Tryz.func163 rfl (by rfl), Nat.zero_le _, fun H lim w vs hrows hglob hvs => ?_⟩; simp only [Vs, V, VD, num] at hvs; obtain ⟨_, _, rfl, rfl, _, _, rfl, rfl, rfl⟩ := hvs; have hR := rep0 hrows hglob
 rcases Nat.eq_zero_or_pos n with h0 | h0
 ·subst h0
  refine Calls.mono (Tryz.grow_none w) ?_; rintro e w' ⟨rfl, rfl⟩; have hx := nx_push (r := .acc 9 1 []) hR (Fr.refl _ _ _) (u := .slice none 0 0) (by simp [blk]) ⟨_, [], upd_same _ _ _, ⟨by simp, .inl ⟨rfl, rfl⟩⟩, by simp [VDs], by simp, by decide, by simp [blk]⟩; exact ⟨_, _, hx.rep.rows, hx.fr.weaken fun _ ⟨_, q, _⟩ => q.elim, hx.ptr, hx.blocks, _, rfl, by simp only [V]; exact upd_same _ _ _⟩
 refine Calls.mono (Tryz.grow_some n h0 hn w) ?_; rintro e w' ⟨cap, cells, rfl, hc, hs, rfl⟩; have hx := nx_push (r := .acc 9 1 []) hR (Fr_drew_alloc (.cells cells 9) 0) (u := .slice (some ⟨w.heap.size, 0, none⟩) 0 cap) (by simp [blk]) ⟨_, [], upd_same _ _ _, ⟨by simp, .inr ⟨w.heap.size, cap, cells, rfl, Nat.zero_le _, heap_alloc_new w.drew _, Nat.zero_le _, hc, by simp [hs], by simp⟩⟩, by simp [VDs], by simp, by decide, fun b hb => by simp only [blk, Option.some.injEq] at hb; subst hb; rw [upd_same]; rfl⟩; exact ⟨_, _, hx.rep.rows, hx.fr.weaken fun _ ⟨_, q, _⟩ => q.elim, hx.ptr, hx.blocks, _, rfl, by simp only [V]; exact upd_same _ _ _⟩
end Go.Abs
end
section
namespace Go.Abs
open Go Go.Proofs
attribute [local irreducible] aCall AWp Sub Spec
def lsts (L : List (List ByteArray)) : List (List Data) := L.map fun x => [.sl 1 (strs x)]
theorem lsts_len (L : List (List ByteArray)) : (lsts L).length = L.length := by simp [lsts]
theorem lsts_at {l d e : List (List ByteArray)} {x : List ByteArray} (h : l = d ++ x :: e) : (lsts l)[((d.length : Nat) : Int).toNat]? = some [.sl 1 (strs x)] := by
 subst h; rw [Int.toNat_natCast]; simp [lsts]
def totL : List (List ByteArray) → Nat
 | [] => 0
 | x :: r => x.length + totL r
theorem totL_app : ∀ a b, totL (a ++ b) = totL a + totL b
 | [], b => by simp [totL]
 | x :: a, b => by simp only [List.cons_append, totL, totL_app a b]; omega
theorem totL_snoc (d : List (List ByteArray)) (x : List ByteArray) : ((totL (d ++ [x]) : Nat) : Int) = (totL d : Int) + ((strs x).length : Int) := by
 rw [totL_app, strs_length]; simp [totL]
theorem flat_tot : ∀ L : List (List ByteArray), L.flatten.length = totL L
 | [] => rfl
 | x :: r => by simp only [List.flatten_cons, List.length_append, totL, flat_tot r]
theorem strs_flat (d : List (List ByteArray)) (x : List ByteArray) : strs d.flatten ++ strs x = strs (d ++ [x]).flatten := by simp [strs]
section
variable (G : Glob)
theorem concatL_spec (l : List (List ByteArray)) (ht : totL l ≤ 1000000000) (hb : l.length ≤ 1073741824) : Spec Tryz.prog G 98 [.d (.sl 1 (lsts l))] [] (.ret (.d (.sl 1 (strs l.flatten)))) [] := by
 refine spec_of_awp2 TT_ok (N := 36) Tryz.func98 rfl (by rfl) (Nat.le_refl _) rfl ?_; refine rgs fun E K J O => ?_; refine O _ (aN [0] rfl rfl ?_); clear O J K E; refine rgs fun E K J O => ?_; refine O _ (aN [0, 3] rfl rfl ?_); clear O J K E; refine awp_seq ?_; refine rgs fun E K J O => ?_; refine O _ (aN [0, 3, 9, 10, 11] rfl rfl ?_); clear O J K E; refine awp_block ?_; refine awp_loop (fun k Y => ∃ (d1 e1 : List (List ByteArray)), k = e1.length ∧ l = d1 ++ e1 ∧ Y = ⟨[(0, .d (.sl 1 (lsts l))), (3, .d (num (totL d1 : Nat))), (9, .d (.sl 1 (lsts l))), (10, .d (num (lsts l).length)), (11, .d (num d1.length))], []⟩) (l.length) (⟨[], l, rfl, rfl, rfl⟩) ?_; rintro k Y ⟨d1, e1, rfl, hl1, rfl⟩
 have hll1 : (lsts l).length = d1.length + e1.length := by rw [lsts_len, hl1, List.length_append]
 have hdl1 : d1.length + e1.length ≤ 1073741824 := by rw [hl1, List.length_append] at hb; exact hb
 refine rgs fun E K J O => ?_; refine O _ (aN [0, 3, 9, 10, 11, 12] rfl rfl ?_); clear O J K E; refine awp_seq ?_; refine awp_cond2 rfl (onB_intro (fun h1 => ?_) (fun h1 => ?_))
 ·have h1' := of_decide_eq_true h1
  rw [hll1] at h1'
  cases e1 with
  | nil => simp only [List.length_nil] at h1'; omega
  | cons x e1b =>
  subst hl1; simp only [List.length_cons] at hdl1; have hx := ht; rw [totL_app] at hx; simp only [totL] at hx; have hsl := strs_length x; refine awp_skip ?_; refine awp_seq ?_; refine awp_block ?_; refine rgs fun E K J O => ?_; refine And.intro (by omega) (Exists.intro _ (And.intro (lsts_at rfl) ?_)); refine O _ (aN [0, 3, 5, 9, 10, 11] rfl rfl ?_); clear O J K E; refine rgs fun E K J O => ?_; refine O _ (aN [0, 3, 9, 10, 11] rfl rfl ?_); clear O J K E; refine rgs fun E K J O => ?_; refine O _ (aN [0, 3, 9, 10, 11, 20] rfl rfl ?_); clear O J K E; refine awp_cond2 rfl (onB_intro (fun h2 => ?_) (fun h2 => ?_))
  ·rw [wrapId (by omega) (by omega)] at h2
   have q := of_decide_eq_true h2; omega
  refine awp_skip ?_; refine rgn fun E K J O => ?_; refine O _ ?_; clear O J K E; exact ⟨_, Nat.lt_succ_self _, _, sub_norm (slots := [0, 3, 9, 10, 11]) rfl rfl, d1 ++ [x], e1b, rfl, by simp, by rw [totL_snoc, List.length_append, wrapId (by omega) (by omega), wrapId (by omega) (by omega)]; rfl⟩
 have h1' := of_decide_eq_false h1; rw [hll1] at h1'; obtain rfl : e1 = [] := List.eq_nil_of_length_eq_zero (by omega); rw [List.append_nil] at hl1; subst hl1; refine awp_exit ?_; refine awp_norm [0, 3] rfl rfl ?_; refine rgs fun E K J O => ?_; show aCall _ _ _ _ _ _ _; refine aR [] rfl rfl rfl (grow_spec G (totL l) ht) rfl rfl rfl rfl ?_; refine O _ (aN [0, 6] rfl rfl ?_); clear O J K E; refine awp_seq ?_; refine rgs fun E K J O => ?_; refine O _ (aN [6, 25, 26, 27] rfl rfl ?_); clear O J K E; refine awp_block ?_; refine awp_loop (fun k Y => ∃ (d2 e2 : List (List ByteArray)), k = e2.length ∧ l = d2 ++ e2 ∧ Y = ⟨[(6, .acc 0), (25, .d (.sl 1 (lsts l))), (26, .d (num (lsts l).length)), (27, .d (num d2.length))], [.acc 9 1 (strs d2.flatten)]⟩) (l.length) (⟨[], l, rfl, rfl, rfl⟩) ?_; rintro k Y ⟨d2, e2, rfl, hl2, rfl⟩
 have hll2 : (lsts l).length = d2.length + e2.length := by rw [lsts_len, hl2, List.length_append]
 have hdl2 : d2.length + e2.length ≤ 1073741824 := by rw [hl2, List.length_append] at hb; exact hb
 refine rgs fun E K J O => ?_; refine O _ (aN [6, 25, 26, 27, 28] rfl rfl ?_); clear O J K E; refine awp_seq ?_; refine awp_cond2 rfl (onB_intro (fun h2 => ?_) (fun h2 => ?_))
 ·have h2' := of_decide_eq_true h2
  rw [hll2] at h2'
  cases e2 with
  | nil => simp only [List.length_nil] at h2'; omega
  | cons x e2b =>
  subst hl2; simp only [List.length_cons] at hdl2; have hx := ht; rw [totL_app] at hx; simp only [totL] at hx; have hft := flat_tot d2; refine awp_skip ?_; refine awp_seq ?_; refine awp_block ?_; refine rgs fun E K J O => ?_; refine And.intro (by omega) (Exists.intro _ (And.intro (lsts_at rfl) ?_)); refine O _ (aN [6, 8, 25, 26, 27] rfl rfl ?_); clear O J K E; refine rgn fun E K J O => ?_; refine And.intro (And.intro ((by simp only [strs_length, List.length_append, List.length_cons, List.length_nil] at *; omega)) ((by simp only [strs_length, List.length_append, List.length_cons, List.length_nil, maxLen] at *; omega))) ?_; refine O _ (aN [6, 25, 26, 27] rfl rfl ?_); clear O J K E; refine rgn fun E K J O => ?_; refine O _ ?_; clear O J K E; exact ⟨_, Nat.lt_succ_self _, _, sub_pick (L := [0]) (slots := [6, 25, 26, 27]) rfl rfl rfl rfl rfl, d2 ++ [x], e2b, rfl, by simp, by rw [← strs_flat, List.length_append, wrapId (by omega) (by omega)]; rfl⟩
 have h2' := of_decide_eq_false h2; rw [hll2] at h2'; obtain rfl : e2 = [] := List.eq_nil_of_length_eq_zero (by omega); rw [List.append_nil] at hl2; subst hl2; refine awp_exit ?_; refine awp_norm [6] rfl rfl ?_; refine rgs fun E K J O => ?_; refine O _ (aN [2] rfl rfl ?_); clear O J K E; refine awp_ret ?_; exact ⟨_, [], _, [.d (.sl 1 (strs l.flatten))], rfl, rfl, rfl, rfl, rfl, PWs.refl _, rfl⟩
end
theorem concat_spec (G : Glob) : ConcatOk G := fun a b h => by
 have := concatL_spec G [a, b] (by simp [totL]; omega) (by simp)
 simpa [lsts] using this
end Go.Abs
end
section
namespace Go.Abs
open Go Go.Proofs
theorem beq_toList (a b : ByteArray) : (a.toList == b.toList) = decide (a = b) := by
 by_cases h : a = b
 ·subst h; simp
 rw [decide_eq_false h, beq_eq_false_iff_ne]; intro q; apply h; rw [ByteArray.toList_eq, ByteArray.toList_eq] at q; apply ByteArray.ext; exact Array.ext' q
theorem beq_bytes (a b : ByteArray) : (a == b) = decide (a = b) := by
 obtain ⟨a⟩ := a; obtain ⟨b⟩ := b
 show (a == b) = _
 by_cases h : a = b
 ·subst h; simp
 have h2 : ¬ (⟨a⟩ : ByteArray) = ⟨b⟩ := fun q => h (by injection q); rw [decide_eq_false h2, beq_eq_false_iff_ne]; exact h
theorem get_put : ∀ (m : List (ByteArray × Data)) (w s : ByteArray) (p : Data), (mapGet (mapPut m w p) s).isSome = ((mapGet m s).isSome || decide (w = s))
 | [], w, s, p => by
  simp only [mapPut, mapGet, beq_bytes]
  by_cases h : s = w
  ·rw [decide_eq_true h, decide_eq_true h.symm]; rfl
  rw [decide_eq_false h, decide_eq_false (fun q => h q.symm)]; rfl
 | (k, q) :: r, w, s, p => by
  simp only [mapPut, beq_bytes]
  by_cases h : w = k
  ·subst h
   rw [decide_eq_true rfl]; simp only [mapGet, beq_bytes]
   by_cases h : s = w
   ·rw [decide_eq_true h, decide_eq_true h.symm]; rfl
   rw [decide_eq_false h, decide_eq_false (fun q => h q.symm)]; simp
  rw [decide_eq_false h]; simp only [mapGet, beq_bytes]
  by_cases h2 : s = k
  ·rw [decide_eq_true h2]; rfl
  rw [decide_eq_false h2]; exact get_put r w s p
theorem fold_put (s : ByteArray) : ∀ (l : List ByteArray) (m : List (ByteArray × Data)), (mapGet (l.foldl (fun m w => mapPut m w tt) m) s).isSome = ((mapGet m s).isSome || hasF s l)
 | [], m => by simp [hasF]
 | x :: r, m => by
  rw [List.foldl_cons, fold_put s r, get_put]; simp only [hasF, beq_toList]
  cases decide (x = s) <;> simp
theorem isRes_eq (s : ByteArray) : isRes s = hasF s resW := by
 unfold isRes mapL
 rw [fold_put]
 rfl
theorem nameG_eq (s : ByteArray) : isNameG s = isNameF s := by
 unfold isNameG isNameF
 rw [isRes_eq]
 have : (!(s.toList == (⟨#[]⟩ : ByteArray).toList)) = decide ((s.size : Int) > 0) := by
  rw [beq_toList]
  by_cases h : s = ⟨#[]⟩
  ·subst h; rfl
  rw [decide_eq_false h, decide_eq_true]
  ·rfl
  rcases Nat.eq_zero_or_pos s.size with q | q
  ·exact absurd (ByteArray.ext (Array.eq_empty_of_size_eq_zero q)) h
  omega
 rw [this]
 rfl
theorem relG_eq (s : ByteArray) : isRelG s = isRelF s := by
 unfold isRelG relW isRelF
 simp only [hasF, beq_toList]; simp only [eq_comm (b := s)]
 repeat' split
 all_goals simp_all
theorem op_num {op : ByteArray} (h : (op.toList == (⟨#[110, 117, 109]⟩ : ByteArray).toList) = true) : (op.toList == (⟨#[110, 117, 109]⟩ : ByteArray).toList) = true ∧ (op.toList == (⟨#[118, 97, 114]⟩ : ByteArray).toList) = false ∧ (op.toList == (⟨#[97, 116]⟩ : ByteArray).toList) = false ∧ (op.toList == (⟨#[110, 101, 103]⟩ : ByteArray).toList) = false ∧ rankF op = 3 ∧ binF op = false := by
 rw [beq_toList] at h; have h := of_decide_eq_true h; subst h
 refine ⟨?_, ?_, ?_, ?_, ?_, ?_⟩ <;> kernel_rfl
theorem op_var {op : ByteArray} (h : (op.toList == (⟨#[118, 97, 114]⟩ : ByteArray).toList) = true) : (op.toList == (⟨#[110, 117, 109]⟩ : ByteArray).toList) = false ∧ (op.toList == (⟨#[118, 97, 114]⟩ : ByteArray).toList) = true ∧ (op.toList == (⟨#[97, 116]⟩ : ByteArray).toList) = false ∧ (op.toList == (⟨#[110, 101, 103]⟩ : ByteArray).toList) = false ∧ rankF op = 3 ∧ binF op = false := by
 rw [beq_toList] at h; have h := of_decide_eq_true h; subst h
 refine ⟨?_, ?_, ?_, ?_, ?_, ?_⟩ <;> kernel_rfl
theorem op_at {op : ByteArray} (h : (op.toList == (⟨#[97, 116]⟩ : ByteArray).toList) = true) : (op.toList == (⟨#[110, 117, 109]⟩ : ByteArray).toList) = false ∧ (op.toList == (⟨#[118, 97, 114]⟩ : ByteArray).toList) = false ∧ (op.toList == (⟨#[97, 116]⟩ : ByteArray).toList) = true ∧ (op.toList == (⟨#[110, 101, 103]⟩ : ByteArray).toList) = false ∧ rankF op = 3 ∧ binF op = false := by
 rw [beq_toList] at h; have h := of_decide_eq_true h; subst h
 refine ⟨?_, ?_, ?_, ?_, ?_, ?_⟩ <;> kernel_rfl
theorem op_neg {op : ByteArray} (h : (op.toList == (⟨#[110, 101, 103]⟩ : ByteArray).toList) = true) : (op.toList == (⟨#[110, 117, 109]⟩ : ByteArray).toList) = false ∧ (op.toList == (⟨#[118, 97, 114]⟩ : ByteArray).toList) = false ∧ (op.toList == (⟨#[97, 116]⟩ : ByteArray).toList) = false ∧ (op.toList == (⟨#[110, 101, 103]⟩ : ByteArray).toList) = true ∧ rankF op = 3 ∧ binF op = false := by
 rw [beq_toList] at h; have h := of_decide_eq_true h; subst h
 refine ⟨?_, ?_, ?_, ?_, ?_, ?_⟩ <;> kernel_rfl
theorem op_bin {op : ByteArray} (h : binF op = true) : ((op.toList == (⟨#[110, 117, 109]⟩ : ByteArray).toList) = false ∧ (op.toList == (⟨#[118, 97, 114]⟩ : ByteArray).toList) = false ∧ (op.toList == (⟨#[97, 116]⟩ : ByteArray).toList) = false ∧ (op.toList == (⟨#[110, 101, 103]⟩ : ByteArray).toList) = false) ∧ (rankF op == 3) = false := by
 unfold binF at h
 simp only [Bool.or_eq_true, beq_toList, decide_eq_true_eq] at h
 rcases h with (((rfl | rfl) | rfl) | rfl) | rfl <;> (refine ⟨⟨?_, ?_, ?_, ?_⟩, ?_⟩ <;> kernel_rfl)
theorem op_none {op : ByteArray} (h : binF op = false) : rankF op = 3 := by
 unfold binF at h
 unfold rankF
 simp only [Bool.or_eq_false_iff] at h; simp only [h, Bool.or_self]
/-- What the reference comes to at a text. -/
structure GR (x : TIs) (m : Nat) (r : GT) : Prop where
 ex : ∃ s b, r = some (s, b) ∧ s.size ≤ m ∧ (b = true → ∃ k, x = some (s, k)) ∧ (∀ t k, x = some (t, k) → t.size ≤ 4000 → b = true)
theorem fitG_small {a : ByteArray} {b : Bool} (h : a.size ≤ 1073741824) : fitG a b = some (a, b) := by
 unfold fitG chkS
 rw [decide_eq_true h]
theorem GR.no {x : TIs} {m : Nat} (h : ∀ t k, x = some (t, k) → 4000 < t.size) : GR x m (some (⟨#[]⟩, false)) :=
 ⟨⟨_, _, rfl, Nat.zero_le _, fun q => Bool.noConfusion q, fun t k e q => by have := h t k e; omega⟩⟩
theorem GR.nil {m : Nat} : GR Option.none m (some (⟨#[]⟩, false)) := GR.no (fun t k e => by cases e)
theorem GR.fit {x : TIs} {m : Nat} {s : ByteArray} {b : Bool} (hs : s.size ≤ m) (hm : m ≤ 1073741824) (h1 : b = true → ∃ k, x = some (s, k)) (h2 : ∀ t k, x = some (t, k) → t.size ≤ 4000 → b = true) : GR x m (fitG s b) :=
 ⟨⟨s, b, fitG_small (by omega), hs, h1, h2⟩⟩
def bdG (g : ByteArray → ByteArray) (r : GT) : GT := match r with
 | some (s, ok) => fitG (g s) ok
 | none => none
theorem GR.wrap {x : TIs} {m m' j : Nat} {r : GT} (g : ByteArray → ByteArray) (c : Nat) (h : GR x m r) (hg : ∀ s, s.size ≤ (g s).size ∧ (g s).size ≤ s.size + c) (hm : m + c ≤ m') (hm' : m' ≤ 1073741824) : GR (x.map fun y => (g y.1, y.2 + j)) m' (bdG g r) := by
 obtain ⟨s, b, rfl, h1, h2, h3⟩ := h.ex; have := hg s; refine GR.fit (by omega) hm' (fun q => ?_) (fun t k e ht => ?_)
 ·obtain ⟨k, rfl⟩ := h2 q
  exact ⟨k + j, rfl⟩
 obtain ⟨y, hy, e⟩ := Option.map_eq_some_iff.1 e; have e1 : g y.1 = t := congrArg Prod.fst e; subst e1; have := hg y.1; exact h3 y.1 y.2 hy (by omega)
def ExT (f : Nat) : Prop := ∀ (e : Ex) (least d : Int), fuE e + ovr (rankF e.op) least ≤ f → nmE e = true → wtE e ≤ 1000000000 → -1 ≤ d → d ≤ 100 → 1 ≤ least → GR (exprI e least d) (wtE e + 2 * ovr (rankF e.op) least) (exprG f e least d)
theorem nameG_emp {nm : ByteArray} (h : (nm.toList == (⟨#[]⟩ : ByteArray).toList) = true) : isNameF nm = false := by
 rw [beq_toList] at h; have h := of_decide_eq_true h; subst h
 cases q : isNameF ⟨#[]⟩ with
 | false => rfl
 | true => have := name_pos q; exact absurd this (by decide)
theorem bne_eq (a b : Int) : (a != b) = !(a == b) := rfl
theorem body_gr {f : Nat} (ih : ExT f) (op : ByteArray) (n : Int) (nm : ByteArray) (l : List Ex) (d : Int) (hf : fuE (.mk op n nm l) ≤ f + 1) (hnm : nmE (.mk op n nm l) = true) (hw : wtE (.mk op n nm l) ≤ 1000000000) (hd0 : -1 ≤ d) (hd : d ≤ 12) (least : Int) (hr : decide (rankF op < least) = false) :
  GR ((bodyI (.mk op n nm l) d).map fun x => (x.1, x.2 + 1)) (wtE (.mk op n nm l)) (exprG (f + 1) (.mk op n nm l) least d) := by
 simp only [fuE] at hf; simp only [nmE, Bool.and_eq_true] at hnm; simp only [wtE] at hw ⊢; have hd1 : IntKind.i64.wrap (d + 1) = d + 1 := i64_id (by omega) (by omega)
 have hc : (chkS nm && chkS op && chkN n) = true := by
  rw [show chkS nm = true from decide_eq_true (by omega), show chkS op = true from decide_eq_true (by omega), hnm.1]
  rfl
 simp only [exprG, decide_eq_false (show ¬ d > 12 by omega), hr, hc, hd1]; rw [bodyI.eq_def]
 dsimp only
 unfold badG namedG
 simp only [nameG_eq]
 cases k1 : (op.toList == (⟨#[110, 117, 109]⟩ : ByteArray).toList) with
 | true =>
  obtain ⟨_, e2, e3, e4, e5, e6⟩ := op_num k1; simp only [e2, e3]
  cases hz : (nm.toList == (⟨#[]⟩ : ByteArray).toList) with
  | false =>
   simp
   exact GR.nil
  | true =>
   rw [nameG_emp hz]; simp only [Bool.or_self, Bool.not_false, Bool.not_true, Bool.and_false, Bool.false_and, Bool.and_true, BEq.rfl]; refine GR.fit (Nat.le_trans (itoaB_size hnm.1) (by omega)) (by omega) (fun q => ?_) (fun t k e ht => ?_)
   ·simp only [Bool.and_eq_true] at q
    rw [q.1.2, q.2, q.1.1]; exact ⟨_, rfl⟩
   cases h1 : decide (n ≥ 0) <;> cases h2 : decide (n ≤ 1099511627776) <;> cases h3 : (((exs l).length : Int) == 0) <;> simp [h1, h2, h3] at e ⊢
 | false =>
  simp only
  cases k2 : (op.toList == (⟨#[118, 97, 114]⟩ : ByteArray).toList) with
  | true =>
   obtain ⟨_, _, e3, e4, e5, e6⟩ := op_var k2; simp only [Bool.true_or, Bool.not_true, Bool.false_and, Bool.or_false, Bool.not_false, Bool.true_and]
   cases hq : isNameF nm with
   | false =>
    simp
    exact GR.nil
   | true =>
    cases hn : (n == 0) with
    | false =>
     simp [bne_eq, hn]
     exact GR.nil
    | true =>
     simp only [bne_eq, hn, BEq.rfl, Bool.not_true, Bool.or_self, Bool.true_and, Bool.and_true]; refine GR.fit (by omega) (by omega) (fun q => ?_) (fun t k e ht => ?_)
     ·rw [q]
      exact ⟨_, rfl⟩
     cases h3 : (((exs l).length : Int) == 0) with
     | true => rfl
     | false => rw [h3] at e; cases e
  | false =>
   simp only
   cases k3 : (op.toList == (⟨#[97, 116]⟩ : ByteArray).toList) with
   | true =>
    obtain ⟨_, _, _, e4, e5, e6⟩ := op_at k3; simp only [Bool.or_true, Bool.not_true, Bool.false_and, Bool.or_false, Bool.not_false, Bool.true_and, Bool.true_or]
    cases hq : isNameF nm with
    | false =>
     simp
     exact GR.nil
    | true =>
     cases hn : (n == 0) with
     | false =>
      simp [bne_eq, hn]
      exact GR.nil
     | true =>
      simp only [bne_eq, hn, BEq.rfl, Bool.not_true, Bool.or_self, Bool.true_and, Bool.and_true]
      cases h3 : (((exs l).length : Int) == 1) with
      | false => exact GR.nil
      | true =>
       obtain ⟨x, rfl⟩ := ex_one (c := true) (by simpa using h3); simp only [fu_one] at hf; simp only [wt_one] at hw ⊢; simp only [nmL, Bool.and_true] at hnm; have hov := ovr_no (r := rankF x.op) (l := 1) (rankF_range _).1; have hx := ih x 1 (d + 1) (by omega) hnm.2 (by omega) (by omega) (by omega) (by omega); simp only [Bool.not_true, map_map1 _ (fun s => ((nm ++ ⟨#[91]⟩) ++ s) ++ ⟨#[93]⟩)]; exact GR.wrap (m' := 64 + op.size + nm.size + (wtE x + 2)) (fun s => ((nm ++ ⟨#[91]⟩) ++ s) ++ ⟨#[93]⟩) (nm.size + 2) hx (fun s => by simp only [sz2]; have e1 : (⟨#[91]⟩ : ByteArray).size = 1 := rfl; have e2 : (⟨#[93]⟩ : ByteArray).size = 1 := rfl; omega) (by omega) (by omega)
   | false =>
    simp only
    cases k4 : (op.toList == (⟨#[110, 101, 103]⟩ : ByteArray).toList) with
    | true =>
     obtain ⟨_, _, _, _, e5, e6⟩ := op_neg k4; simp only [Bool.or_self, Bool.not_false, Bool.true_and, Bool.false_or]
     cases hz : (nm.toList == (⟨#[]⟩ : ByteArray).toList) with
     | false =>
      simp
      exact GR.nil
     | true =>
      rw [nameG_emp hz]
      cases hn : (n == 0) with
      | false =>
       simp [bne_eq, hn]
       exact GR.nil
      | true =>
       simp only [bne_eq, hn, BEq.rfl, Bool.not_true, Bool.or_self, Bool.true_and, Bool.and_true]
       cases h3 : (((exs l).length : Int) == 1) with
       | false => exact GR.nil
       | true =>
        obtain ⟨x, rfl⟩ := ex_one (c := true) (by simpa using h3); simp only [fu_one] at hf; simp only [wt_one] at hw ⊢; simp only [nmL, Bool.and_true] at hnm; have hov := ovr_le (rankF x.op) 3; have hx := ih x 3 (d + 1) (by omega) hnm.2 (by omega) (by omega) (by omega) (by omega); simp only [Bool.not_true, map_map1 _ (fun s => ⟨#[45]⟩ ++ s)]; exact GR.wrap (m' := 64 + op.size + nm.size + (wtE x + 2)) (fun s => ⟨#[45]⟩ ++ s) 1 hx (fun s => by simp only [sz2]; have e1 : (⟨#[45]⟩ : ByteArray).size = 1 := rfl; omega) (by omega) (by omega)
    | false =>
     simp only [Bool.or_self, Bool.not_false, Bool.true_and]
     cases k5 : binF op with
     | false =>
      rw [op_none k5]; simp only [Bool.false_and]
      split
      ·exact GR.nil
      exact GR.nil
     | true =>
      have e5 := (op_bin k5).2
      cases hz : (nm.toList == (⟨#[]⟩ : ByteArray).toList) with
      | false =>
       simp
       exact GR.nil
      | true =>
       rw [nameG_emp hz]
       cases hn : (n == 0) with
       | false =>
        simp [bne_eq, hn]
        exact GR.nil
       | true =>
        simp only [bne_eq, hn, e5, BEq.rfl, Bool.not_true, Bool.or_self, Bool.true_and, Bool.and_true, Bool.false_or]
        cases h3 : (((exs l).length : Int) == 2) with
        | false => exact GR.nil
        | true =>
         obtain ⟨x, y, rfl⟩ := ex_two (c := true) (by simpa using h3); have hrk := rankF_range op; rw [show IntKind.i64.wrap (rankF op + 1) = rankF op + 1 from i64_id (by omega) (by omega)]; simp only [fu_two] at hf; simp only [wt_two] at hw ⊢; simp only [nmL, Bool.and_true, Bool.and_eq_true] at hnm; have hox := ovr_le (rankF x.op) (rankF op); have hoy := ovr_le (rankF y.op) (rankF op + 1); obtain ⟨a, ok, e, h1, h2, h4⟩ := (ih x (rankF op) d (by omega) hnm.2.1 (by omega) (by omega) (by omega) (by omega)).ex; obtain ⟨b, ok2, e', g1, g2, g4⟩ := (ih y (rankF op + 1) d (by omega) hnm.2.2 (by omega) (by omega) (by omega) (by omega)).ex; simp only [e, e', Bool.not_true]; have s32 : (⟨#[32]⟩ : ByteArray).size = 1 := rfl
         show GR (Option.map (fun x => (x.1, x.2 + 1)) ((exprI x (rankF op) d).bind fun u => (exprI y (rankF op + 1) d).map fun v => ((((u.1 ++ ⟨#[32]⟩) ++ op) ++ ⟨#[32]⟩) ++ v.1, u.2 + v.2))) _ _
         have inv : ∀ t k, Option.map (fun x => (x.1, x.2 + 1)) ((exprI x (rankF op) d).bind fun u => (exprI y (rankF op + 1) d).map fun v => ((((u.1 ++ ⟨#[32]⟩) ++ op) ++ ⟨#[32]⟩) ++ v.1, u.2 + v.2)) = some (t, k) → ∃ t1 k1 t2 k2, exprI x (rankF op) d = some (t1, k1) ∧ exprI y (rankF op + 1) d = some (t2, k2) ∧ t = (((t1 ++ ⟨#[32]⟩) ++ op) ++ ⟨#[32]⟩) ++ t2 := by
          intro t k q; obtain ⟨z, hz, q⟩ := Option.map_eq_some_iff.1 q; obtain ⟨u, hu, hz⟩ := Option.bind_eq_some_iff.1 hz; obtain ⟨v, hv, hz⟩ := Option.map_eq_some_iff.1 hz; subst hz; simp only [Prod.mk.injEq] at q; exact ⟨u.1, u.2, v.1, v.2, hu, hv, q.1.symm⟩
         cases ok with
         | false =>
          simp only [Bool.not_false, Bool.true_or]; refine GR.no (fun t k q => ?_); obtain ⟨t1, k1, t2, k2, q1, q2, rfl⟩ := inv t k q; simp only [sz2]
          rcases Nat.lt_or_ge 4000 t1.size with w | w
          ·omega
          have := h4 t1 k1 q1 w; cases this
         | true =>
          obtain ⟨k1, q1⟩ := h2 rfl
          by_cases hbig : ((a.size : Int) > 4000)
          ·simp only [decide_eq_true hbig, Bool.or_true]
           refine GR.no (fun t k q => ?_); obtain ⟨t1, k1', t2, k2, q1', q2, rfl⟩ := inv t k q; rw [q1] at q1'; simp only [Option.some.injEq, Prod.mk.injEq] at q1'; rw [← q1'.1]; simp only [sz2]; omega
          simp only [decide_eq_false hbig, Bool.not_true, Bool.or_self]; refine GR.fit (by simp only [sz2]; omega) (by omega) (fun q => ?_) (fun t k q ht => ?_)
          ·obtain ⟨k2, q2⟩ := g2 q
           rw [q1, q2]; exact ⟨_, rfl⟩
          obtain ⟨t1, k1', t2, k2, q1', q2, rfl⟩ := inv t k q; simp only [sz2] at ht; exact g4 t2 k2 q2 (by omega)
theorem expr_gr : ∀ f, ExT f
 | 0 => by
  intro e least d hf; obtain ⟨op, n, nm, l⟩ := e; simp only [fuE] at hf; omega
 | f + 1 => by
  intro e least d hf hnm hw hd0 hd hle; have ih := expr_gr f; obtain ⟨op, n, nm, l⟩ := e
  cases hd12 : decide (d ≤ 12) with
  | false =>
   have hd' := of_decide_eq_false hd12; simp only [exprG, exprI, closeI, hd12, decide_eq_true (show d > 12 by omega)]; exact GR.nil
  | true =>
   have hd' := of_decide_eq_true hd12; have hop : (Ex.mk op n nm l).op = op := rfl; rw [hop] at hf ⊢
   cases hr : decide (rankF op < least) with
   | false =>
    rw [rank_le hr] at hf ⊢; have := body_gr ih op n nm l d (by omega) hnm hw hd0 hd' least hr
    have e : exprI (.mk op n nm l) least d = (bodyI (.mk op n nm l) d).map fun x => (x.1, x.2 + 1) := by simp only [exprI, closeI, hd12, hop, hr]
    rw [e]; exact this
   | true =>
    have ho : ovr (rankF op) least = 1 := by unfold ovr; rw [hr]
    rw [ho] at hf ⊢; have h1 := ovr_no (r := rankF op) (l := 1) (rankF_range _).1; have hx := ih (.mk op n nm l) 1 (d + 1) (by rw [hop]; omega) hnm hw (by omega) (by omega) (by omega); rw [hop, h1] at hx; simp only [exprG, decide_eq_false (show ¬ d > 12 by omega), hr]; rw [i64_id (x := d + 1) (by omega) (by omega)]; have := GR.wrap (j := 1) (m' := wtE (.mk op n nm l) + 2 * 1) (fun s => (⟨#[40]⟩ ++ s) ++ ⟨#[41]⟩) 2 hx (fun s => by simp only [sz2]; have e1 : (⟨#[40]⟩ : ByteArray).size = 1 := rfl; have e2 : (⟨#[41]⟩ : ByteArray).size = 1 := rfl; omega) (by omega) (by omega)
    have e : exprI (.mk op n nm l) least d = (exprI (.mk op n nm l) 1 (d + 1)).map fun y => ((⟨#[40]⟩ ++ y.1) ++ ⟨#[41]⟩, y.2 + 1) := by
     have h2 : decide (rankF op < 1) = false := decide_eq_false (by have := (rankF_range op).1; omega); simp only [exprI, closeI, hd12, hop, hr, h2]
     cases decide (d + 1 ≤ 12) with
     | true => cases bodyI (.mk op n nm l) (d + 1) <;> rfl
     | false => rfl
    rw [e]; exact this
end Go.Abs
end
section
namespace Go.Abs
open Go Go.Proofs
def has {α : Type} (x : TM α) (a : α) : Prop := ∃ k, x = some (a, k)
theorem has_fun {α : Type} {x : TM α} {a b : α} (h : has x a) (k : has x b) : a = b := by
 obtain ⟨i, h⟩ := h; obtain ⟨j, k⟩ := k; rw [h] at k; simp only [Option.some.injEq, Prod.mk.injEq] at k; exact k.1
theorem has_bd {α β : Type} {x : TM α} {f : α → TM β} {b : β} : has (TM.bd x f) b ↔ ∃ a, has x a ∧ has (f a) b := by
 constructor
 ·rintro ⟨j, h⟩
  obtain ⟨a, k, i, h1, h2, _⟩ := bd_some h; exact ⟨a, ⟨k, h1⟩, ⟨i, h2⟩⟩
 rintro ⟨a, ⟨k, h1⟩, ⟨i, h2⟩⟩; exact ⟨k + i, by simp only [TM.bd, h1, h2]⟩
theorem has_ret {α : Type} {a b : α} : has (TM.ret a) b ↔ b = a := by
 constructor
 ·rintro ⟨j, h⟩; exact (ret_some h).1
 rintro rfl; exact ⟨0, rfl⟩
theorem has_grd {α : Type} {c : Bool} {x : TM α} {a : α} : has (TM.grd c x) a ↔ c = true ∧ has x a := by
 constructor
 ·rintro ⟨j, h⟩; exact ⟨(grd_some h).1, j, (grd_some h).2⟩
 rintro ⟨rfl, h⟩; exact h
theorem has_sq {x y : TIs} {t : ByteArray} : has (sqI x y) t ↔ ∃ a b, has x a ∧ has y b ∧ t = a ++ b := by
 unfold sqI
 rw [has_bd]
 constructor
 ·rintro ⟨a, h1, h2⟩
  obtain ⟨b, h3, h4⟩ := has_bd.1 h2; exact ⟨a, b, h1, h3, has_ret.1 h4⟩
 rintro ⟨a, b, h1, h2, rfl⟩; exact ⟨a, h1, has_bd.2 ⟨b, h2, has_ret.2 rfl⟩⟩
theorem has_none {α : Type} {a : α} : ¬ has (none : TM α) a := by rintro ⟨k, h⟩; cases h
structure GP (p : ByteArray → Prop) (m : Nat) (r : GT) : Prop where
 ex : ∃ s b, r = some (s, b) ∧ s.size ≤ m ∧ (b = true → p s) ∧ (∀ t, p t → t.size ≤ 4000 → b = true)
theorem GR.gp {x : TIs} {m : Nat} {r : GT} (h : GR x m r) : GP (has x) m r := by
 obtain ⟨s, b, h1, h2, h3, h4⟩ := h.ex; exact ⟨⟨s, b, h1, h2, h3, fun t ⟨k, ht⟩ => h4 t k ht⟩⟩
theorem GP.no {p : ByteArray → Prop} {m : Nat} (h : ∀ t, p t → 4000 < t.size) : GP p m (some (⟨#[]⟩, false)) :=
 ⟨⟨_, _, rfl, Nat.zero_le _, fun q => Bool.noConfusion q, fun t e q => by have := h t e; omega⟩⟩
theorem GP.congr {p q : ByteArray → Prop} {m m' : Nat} {r : GT} (h : GP p m r) (hm : m ≤ m') (hp : ∀ t, p t ↔ q t) : GP q m' r := by
 obtain ⟨s, b, h1, h2, h3, h4⟩ := h.ex; exact ⟨⟨s, b, h1, by omega, fun z => (hp s).1 (h3 z), fun t z => h4 t ((hp t).2 z)⟩⟩
theorem GP.fit {p : ByteArray → Prop} {m : Nat} {s : ByteArray} {b : Bool} (hs : s.size ≤ m) (hm : m ≤ 1073741824) (h1 : b = true → p s) (h2 : ∀ t, p t → t.size ≤ 4000 → b = true) : GP p m (fitG s b) :=
 ⟨⟨s, b, fitG_small (by omega), hs, h1, h2⟩⟩
theorem chkS_yes {a : ByteArray} (h : a.size ≤ 1073741824) : chkS a = true := decide_eq_true h
theorem join_snoc (sep x : List UInt8) : ∀ l : List (List UInt8), l ≠ [] → Lib.join (l ++ [x]) sep = Lib.join l sep ++ sep ++ x
 | [], h => absurd rfl h
 | [y], _ => by simp [Lib.join]
 | y :: z :: r, _ => by
  have := join_snoc sep x (z :: r) (by simp); simp only [Lib.join, List.cons_append, List.intercalate_cons_cons, List.append_assoc] at this ⊢; rw [this]
theorem joinB_snoc (pr : List ByteArray) (s sep : ByteArray) : joinB (pr ++ [s]) sep = sepG pr.length (joinB pr sep) sep ++ s := by
 unfold sepG
 cases pr with
 | nil =>
  show (⟨(Lib.join [s.data.toList] sep.data.toList).toArray⟩ : ByteArray) = _
  have e : Lib.join [s.data.toList] sep.data.toList = s.data.toList := by simp [Lib.join]
  rw [e]; apply ByteArray.ext; rw [decide_eq_false (by simp)]; simp only [ByteArray.data_append]
  show _ = (Lib.join [] _).toArray ++ _
  simp [Lib.join]
 | cons y r =>
  rw [decide_eq_true (by simp only [List.length_cons]; omega)]
  unfold joinB
  have e : ((y :: r) ++ [s]).map (fun x : ByteArray => x.data.toList) = (y :: r).map (fun x : ByteArray => x.data.toList) ++ [s.data.toList] := by simp
  rw [e, join_snoc _ _ _ (by simp)]; apply ByteArray.ext; simp only [ByteArray.data_append]
  simp
theorem joinB_nil (sep : ByteArray) : joinB [] sep = ⟨#[]⟩ := by
 unfold joinB
 simp [Lib.join]
theorem ssz_mem {c : Nat} {s : ByteArray} {l : List ByteArray} (h : s ∈ l) : s.size ≤ ssz c l := by
 induction l with
 | nil => cases h
 | cons x l ih =>
  simp only [ssz]
  rcases List.mem_cons.1 h with rfl | h
  ·omega
  have := ih h; omega
theorem joinB_mem {s sep : ByteArray} {l : List ByteArray} (h : s ∈ l) : s.size ≤ (joinB l sep).size := Nat.le_trans (ssz_mem (c := 0) h) (joinB_ge l sep)
theorem expr_one (f : Nat) (e : Ex) (hf : fuE e ≤ f) (hn : nmE e = true) (hw : wtE e ≤ 1000000000) : GP (has (exprI e 1 1)) (wtE e) (exprG f e 1 1) := by
 have ho := ovr_no (r := rankF e.op) (l := 1) (rankF_range _).1; have := (expr_gr f e 1 1 (by omega) hn hw (by omega) (by omega) (by omega)).gp; rw [ho] at this; exact this
theorem listG_gr (f : Nat) : ∀ (l : List Ex) (pr : List ByteArray), fuL l ≤ f → nmL l = true → wtL l + ssz 2 pr ≤ 1000000000 →
  GP (fun t => ∃ ss, has (listI l) ss ∧ t = joinB (pr ++ ss) ⟨#[44, 32]⟩) (wtL l + ssz 2 pr) (listG f l pr.length (joinB pr ⟨#[44, 32]⟩))
 | [], pr, _, _, _ => by
  have hs := joinB_size pr ⟨#[44, 32]⟩; have e2 : (⟨#[44, 32]⟩ : ByteArray).size = 2 := rfl; rw [e2] at hs; simp only [listG]; refine ⟨⟨_, _, rfl, by omega, fun _ => ⟨[], has_ret.2 rfl, by simp⟩, fun _ _ _ => rfl⟩⟩
 | e :: r, pr, hf, hn, hw => by
  simp only [fuL] at hf; simp only [nmL, Bool.and_eq_true] at hn; rw [wtL_cons] at hw ⊢; obtain ⟨s, ok, e1, h1, h2, h3⟩ := (expr_one f e (by omega) hn.1 (by omega)).ex; simp only [listG, e1]
  cases ok with
  | false =>
   refine GP.no (fun t ht => ?_); obtain ⟨ss, hss, rfl⟩ := ht; simp only [listI] at hss; obtain ⟨a, ha, hb⟩ := has_bd.1 hss; obtain ⟨ss2, _, hb⟩ := has_bd.1 hb; have hb := has_ret.1 hb; subst hb; have := joinB_mem (sep := ⟨#[44, 32]⟩) (l := pr ++ a :: ss2) (s := a) (by simp)
   rcases Nat.lt_or_ge 4000 a.size with w | w
   ·omega
   have := h3 a ha w; cases this
  | true =>
   simp only [Bool.not_true]; rw [← joinB_snoc]; have hs := joinB_size (pr ++ [s]) ⟨#[44, 32]⟩; have e2 : (⟨#[44, 32]⟩ : ByteArray).size = 2 := rfl; rw [e2] at hs
   have hz : ssz 2 (pr ++ [s]) ≤ ssz 2 pr + (wtE e + 2) := by rw [ssz_append]; simp only [ssz]; omega
   rw [chkS_yes (by omega)]; have ih := listG_gr f r (pr ++ [s]) (by omega) hn.2 (by omega); rw [List.length_append] at ih; refine ih.congr (by omega) (fun t => ?_); have hse := h2 rfl
   constructor
   ·rintro ⟨ss, hss, rfl⟩
    exact ⟨s :: ss, has_bd.2 ⟨s, hse, has_bd.2 ⟨ss, hss, has_ret.2 rfl⟩⟩, by simp⟩
   rintro ⟨ss, hss, rfl⟩; simp only [listI] at hss; obtain ⟨a, ha, hb⟩ := has_bd.1 hss; obtain ⟨ss2, h4, hb⟩ := has_bd.1 hb; have hb := has_ret.1 hb; subst hb; have := has_fun ha hse; subst this; exact ⟨ss2, h4, by simp⟩
theorem listJ_gr (f : Nat) (l : List Ex) (hf : fuL l ≤ f) (hn : nmL l = true) (hw : wtL l ≤ 1000000000) : GP (has (listJ l)) (wtL l) (listG f l 0 ⟨#[]⟩) := by
 have h := listG_gr f l [] hf hn (by simp only [ssz]; omega); rw [joinB_nil] at h; refine h.congr (by simp only [ssz]; omega) (fun t => ?_)
 unfold listJ
 rw [has_bd]
 constructor
 ·rintro ⟨ss, h1, rfl⟩; exact ⟨ss, h1, has_ret.2 rfl⟩
 rintro ⟨ss, h1, h2⟩; exact ⟨ss, h1, has_ret.1 h2⟩
theorem sep_app (R a sep s : ByteArray) (i : Nat) : sepG i (R ++ a) sep ++ s = R ++ (sepG i a sep ++ s) := by
 unfold sepG
 split <;> simp only [ByteArray.append_assoc]
theorem testI_has {t : Ts} {x : ByteArray} : has (testI t) x ↔ isRelF t.rel = true ∧ ∃ a b, has (exprI t.a 1 1) a ∧ has (exprI t.b 1 1) b ∧ x = (((a ++ ⟨#[32]⟩) ++ t.rel) ++ ⟨#[32]⟩) ++ b := by
 unfold testI
 rw [has_grd, has_bd]
 constructor
 ·rintro ⟨h, a, ha, hb⟩
  obtain ⟨b, hb, hc⟩ := has_bd.1 hb; exact ⟨h, a, b, ha, hb, has_ret.1 hc⟩
 rintro ⟨h, a, b, ha, hb, rfl⟩; exact ⟨h, a, ha, has_bd.2 ⟨b, hb, has_ret.2 rfl⟩⟩
/-- The tests of a row, behind R. -/
theorem andG_gr (f : Nat) (R : ByteArray) : ∀ (l : List Ts) (pr : List ByteArray), fuR l ≤ f → nmR l = true → wtR l + ssz 5 pr + R.size ≤ 1000000000 →
  ∃ o, andG f l pr.length (R ++ joinB pr ⟨#[32, 97, 110, 100, 32]⟩) = some o ∧ (o = none → ∀ ss, has (andI l) ss → 4000 < (joinB (pr ++ ss) ⟨#[32, 97, 110, 100, 32]⟩).size) ∧
   (∀ acc, o = some acc → ∃ ss, has (andI l) ss ∧ acc = R ++ joinB (pr ++ ss) ⟨#[32, 97, 110, 100, 32]⟩ ∧ ssz 5 (pr ++ ss) ≤ wtR l + ssz 5 pr)
 | [], pr, _, _, hw => by
  simp only [andG]; refine ⟨_, rfl, fun q => (by cases q), fun acc q => ⟨[], has_ret.2 rfl, ?_, by simp⟩⟩; simp only [Option.some.injEq] at q; rw [← q]
  simp
 | t :: r, pr, hf, hn, hw => by
  simp only [fuR, fuT] at hf; simp only [nmR, nmT, Bool.and_eq_true] at hn; simp only [wtR, wtT] at hw ⊢; obtain ⟨a, ok, e1, h1, h2, h3⟩ := (expr_one f t.a (by omega) hn.1.1 (by omega)).ex; obtain ⟨b, ok2, e2, g1, g2, g3⟩ := (expr_one f t.b (by omega) hn.1.2 (by omega)).ex; simp only [andG, e1, e2, relG_eq]; have s32 : (⟨#[32]⟩ : ByteArray).size = 1 := rfl
  cases hb : (((!ok) || (!ok2)) || (!isRelF t.rel)) with
  | true =>
   refine ⟨none, rfl, fun _ ss hss => ?_, fun acc q => by cases q⟩; simp only [andI] at hss; obtain ⟨x, hx, hss⟩ := has_bd.1 hss; obtain ⟨ss2, _, hss⟩ := has_bd.1 hss; have hss := has_ret.1 hss; subst hss; obtain ⟨hr, a', b', ha, hb', rfl⟩ := testI_has.1 hx; have := joinB_mem (sep := ⟨#[32, 97, 110, 100, 32]⟩) (l := pr ++ ((((a' ++ ⟨#[32]⟩) ++ t.rel) ++ ⟨#[32]⟩) ++ b') :: ss2) (s := (((a' ++ ⟨#[32]⟩) ++ t.rel) ++ ⟨#[32]⟩) ++ b') (by simp); simp only [sz2] at this
   rcases Nat.lt_or_ge 4000 a'.size with w | w
   ·omega
   rcases Nat.lt_or_ge 4000 b'.size with w2 | w2
   ·omega
   have q1 := h3 a' ha w; have q2 := g3 b' hb' w2; rw [q1, q2, hr] at hb; cases hb
  | false =>
   simp only [Bool.or_eq_false_iff, Bool.not_eq_false'] at hb; obtain ⟨⟨q1, q2⟩, q3⟩ := hb; have ha := h2 q1; have hb' := g2 q2; have hx : has (testI t) ((((a ++ ⟨#[32]⟩) ++ t.rel) ++ ⟨#[32]⟩) ++ b) := testI_has.2 ⟨q3, a, b, ha, hb', rfl⟩
   have ec : ((((sepG pr.length (R ++ joinB pr ⟨#[32, 97, 110, 100, 32]⟩) ⟨#[32, 97, 110, 100, 32]⟩ ++ a) ++ ⟨#[32]⟩) ++ t.rel ++ ⟨#[32]⟩) ++ b) = R ++ joinB (pr ++ [(((a ++ ⟨#[32]⟩) ++ t.rel) ++ ⟨#[32]⟩) ++ b]) ⟨#[32, 97, 110, 100, 32]⟩ := by
    rw [joinB_snoc, ← sep_app]; simp only [ByteArray.append_assoc]
   rw [ec]; have hs := joinB_size (pr ++ [(((a ++ ⟨#[32]⟩) ++ t.rel) ++ ⟨#[32]⟩) ++ b]) ⟨#[32, 97, 110, 100, 32]⟩; have e5 : (⟨#[32, 97, 110, 100, 32]⟩ : ByteArray).size = 5 := rfl; rw [e5] at hs
   have hz : ssz 5 (pr ++ [(((a ++ ⟨#[32]⟩) ++ t.rel) ++ ⟨#[32]⟩) ++ b]) ≤ ssz 5 pr + (wtE t.a + wtE t.b + t.rel.size + 10 + 5) := by
    rw [ssz_append]; simp only [ssz, sz2]; omega
   rw [chkS_yes (by rw [sz2]; omega)]; obtain ⟨o, e3, h4, h5⟩ := andG_gr f R r (pr ++ [(((a ++ ⟨#[32]⟩) ++ t.rel) ++ ⟨#[32]⟩) ++ b]) (by omega) hn.2 (by omega); rw [List.length_append] at e3; refine ⟨o, e3, fun q ss hss => ?_, fun acc q => ?_⟩
   ·simp only [andI] at hss
    obtain ⟨x, hx2, hss⟩ := has_bd.1 hss; obtain ⟨ss2, h6, hss⟩ := has_bd.1 hss; have hss := has_ret.1 hss; subst hss; have := has_fun hx2 hx; subst this; have := h4 q ss2 h6
    simpa using this
   obtain ⟨ss, h6, rfl, h7⟩ := h5 acc q; exact ⟨_ :: ss, has_bd.2 ⟨_, hx, has_bd.2 ⟨ss, h6, has_ret.2 rfl⟩⟩, by simp, by simp only [List.append_assoc, List.singleton_append] at h7; omega⟩
theorem andI_len : ∀ (l : List Ts) (ss : List ByteArray), has (andI l) ss → ss.length = l.length
 | [], ss, h => by rw [has_ret.1 h]; rfl
 | t :: r, ss, h => by
  simp only [andI] at h; obtain ⟨x, _, h⟩ := has_bd.1 h; obtain ⟨ss2, h6, h⟩ := has_bd.1 h; rw [has_ret.1 h]; simp only [List.length_cons, andI_len r ss2 h6]
theorem rowI_has {r : List Ts} {x : ByteArray} : has (rowI r) x ↔ ∃ ss, has (andI r) ss ∧ x = joinB (nz ss) ⟨#[32, 97, 110, 100, 32]⟩ := by
 unfold rowI
 rw [has_bd]
 constructor
 ·rintro ⟨ss, h1, h2⟩; exact ⟨ss, h1, has_ret.1 h2⟩
 rintro ⟨ss, h1, rfl⟩; exact ⟨ss, h1, has_ret.2 rfl⟩
theorem nz_cons {l : List ByteArray} (h : l.length ≠ 0) : nz l = l := by
 cases l with
 | nil => exact absurd rfl h
 | cons x r => rfl
/-- A row, behind R. -/
theorem row_gr (f : Nat) (R : ByteArray) (r : List Ts) (hf : fuR r ≤ f) (hn : nmR r = true) (hw : wtR r + R.size ≤ 1000000000) :
  ∃ o, andG f r 0 (trueG r R) = some o ∧ (o = none → ∀ t, has (rowI r) t → 4000 < t.size) ∧ (∀ acc, o = some acc → ∃ t, has (rowI r) t ∧ acc = R ++ t ∧ t.size ≤ wtR r) ∧ (trueG r R).size ≤ R.size + 4 := by
 have t4 : (⟨#[116, 114, 117, 101]⟩ : ByteArray).size = 4 := rfl
 cases r with
 | nil =>
  have e : trueG [] R = R ++ ⟨#[116, 114, 117, 101]⟩ := rfl; rw [e]; refine ⟨some (R ++ ⟨#[116, 114, 117, 101]⟩), rfl, fun q => (by cases q), fun acc q => ⟨⟨#[116, 114, 117, 101]⟩, rowI_has.2 ⟨[], has_ret.2 rfl, ?_⟩, ?_, ?_⟩, ?_⟩
  ·simp [nz, joinB, Lib.join]
  ·simp only [Option.some.injEq] at q; exact q.symm
  ·have := wtR_ge []; omega
  rw [sz2]; omega
 | cons t r =>
  have e : trueG (t :: r) R = R := by
   unfold trueG
   have : (((tss (t :: r)).length : Int) == 0) = false := by rw [beq_eq_false_iff_ne]; simp only [tss, List.length_map, List.length_cons]; omega
   rw [this]
  rw [e]; obtain ⟨o, h1, h2, h3⟩ := andG_gr f R (t :: r) [] hf hn (by simp only [ssz]; omega); rw [joinB_nil] at h1
  have e0 : R ++ ⟨#[]⟩ = R := by apply ByteArray.ext; simp
  rw [e0] at h1; refine ⟨o, h1, fun q t' ht => ?_, fun acc q => ?_, by omega⟩
  ·obtain ⟨ss, hss, rfl⟩ := rowI_has.1 ht
   have := andI_len _ _ hss; rw [nz_cons (by rw [this]; simp)]; exact h2 q ss hss
  obtain ⟨ss, hss, rfl, hz⟩ := h3 acc q; have hl := andI_len _ _ hss; refine ⟨joinB ss ⟨#[32, 97, 110, 100, 32]⟩, rowI_has.2 ⟨ss, hss, by rw [nz_cons (by rw [hl]; simp)]⟩, rfl, ?_⟩; have hs := joinB_size ss ⟨#[32, 97, 110, 100, 32]⟩; have e5 : (⟨#[32, 97, 110, 100, 32]⟩ : ByteArray).size = 5 := rfl; rw [e5] at hs; simp only [List.nil_append, ssz] at hz; omega
theorem orG_gr (f : Nat) : ∀ (l : List (List Ts)) (pr : List ByteArray), fuC l ≤ f → nmC l = true → wtC l + ssz 4 pr ≤ 1000000000 →
  GP (fun t => ∃ ss, has (orI l) ss ∧ t = joinB (pr ++ ss) ⟨#[32, 111, 114, 32]⟩) (wtC l + ssz 4 pr) (orG f l pr.length (joinB pr ⟨#[32, 111, 114, 32]⟩))
 | [], pr, _, _, _ => by
  have hs := joinB_size pr ⟨#[32, 111, 114, 32]⟩; have e2 : (⟨#[32, 111, 114, 32]⟩ : ByteArray).size = 4 := rfl; rw [e2] at hs; simp only [orG]; refine ⟨⟨_, _, rfl, by omega, fun _ => ⟨[], has_ret.2 rfl, by simp⟩, fun _ _ _ => rfl⟩⟩
 | t :: r, pr, hf, hn, hw => by
  simp only [fuC] at hf; simp only [nmC, Bool.and_eq_true] at hn; simp only [wtC] at hw ⊢; have hs0 := joinB_size pr ⟨#[32, 111, 114, 32]⟩; have e4 : (⟨#[32, 111, 114, 32]⟩ : ByteArray).size = 4 := rfl; rw [e4] at hs0; have hs1 := sep_size (i := pr.length) (sep := ⟨#[32, 111, 114, 32]⟩) (Nat.le_refl (joinB pr ⟨#[32, 111, 114, 32]⟩).size); rw [e4] at hs1; have hlen := wtR_len t; obtain ⟨o, e1, h1, h2, h3⟩ := row_gr f (sepG pr.length (joinB pr ⟨#[32, 111, 114, 32]⟩) ⟨#[32, 111, 114, 32]⟩) t (by omega) hn.1 (by omega)
  have hc : (chkL t.length && chkS (trueG t (sepG pr.length (joinB pr ⟨#[32, 111, 114, 32]⟩) ⟨#[32, 111, 114, 32]⟩))) = true := by
   rw [show chkL t.length = true from decide_eq_true (by omega), chkS_yes (by omega)]
   rfl
  simp only [orG, hc, e1]
  cases o with
  | none =>
   refine GP.no (fun x hx => ?_); obtain ⟨ss, hss, rfl⟩ := hx; simp only [orI] at hss; obtain ⟨a, ha, hb⟩ := has_bd.1 hss; obtain ⟨ss2, _, hb⟩ := has_bd.1 hb; have hb := has_ret.1 hb; subst hb; have := joinB_mem (sep := ⟨#[32, 111, 114, 32]⟩) (l := pr ++ a :: ss2) (s := a) (by simp); have := h1 rfl a ha; omega
  | some acc =>
   obtain ⟨s, hse, rfl, hsz⟩ := h2 acc rfl; simp only; rw [← joinB_snoc]
   have hz : ssz 4 (pr ++ [s]) ≤ ssz 4 pr + (wtR t + 4) := by rw [ssz_append]; simp only [ssz]; omega
   have ih := orG_gr f r (pr ++ [s]) (by omega) hn.2 (by omega); rw [List.length_append] at ih; refine ih.congr (by omega) (fun x => ?_)
   constructor
   ·rintro ⟨ss, hss, rfl⟩
    exact ⟨s :: ss, has_bd.2 ⟨s, hse, has_bd.2 ⟨ss, hss, has_ret.2 rfl⟩⟩, by simp⟩
   rintro ⟨ss, hss, rfl⟩; simp only [orI] at hss; obtain ⟨a, ha, hb⟩ := has_bd.1 hss; obtain ⟨ss2, h4, hb⟩ := has_bd.1 hb; have hb := has_ret.1 hb; subst hb; have := has_fun ha hse; subst this; exact ⟨ss2, h4, by simp⟩
theorem condG_gr (f : Nat) (c : List (List Ts)) (hf : fuC c ≤ f) (hn : nmC c = true) (hw : wtC c ≤ 1000000000) : GP (has (condI c)) (wtC c) (condG f c) := by
 have hlen := wtC_len c; have hc : chkL c.length = true := decide_eq_true (by omega)
 unfold condG
 rw [hc]
 cases c with
 | nil => exact ⟨⟨_, _, rfl, by show 5 ≤ 10; omega, fun _ => has_ret.2 rfl, fun _ _ _ => rfl⟩⟩
 | cons r c =>
  have hz : (((cnd (r :: c)).length : Int) == 0) = false := by
   rw [beq_eq_false_iff_ne]; simp only [cnd, List.length_map, List.length_cons]; omega
  simp only [hz]; have h := orG_gr f (r :: c) [] hf hn (by simp only [ssz]; omega); rw [joinB_nil] at h; refine h.congr (by simp only [ssz]; omega) (fun t => ?_)
  dsimp only [condI]
  rw [has_bd]
  constructor
  ·rintro ⟨ss, h1, rfl⟩; exact ⟨ss, h1, has_ret.2 rfl⟩
  rintro ⟨ss, h1, h2⟩; exact ⟨ss, h1, has_ret.1 h2⟩
end Go.Abs
end
