/- Texts of this proof, joined: AbsKJ, AbsKM, AbsKN. -/
import Derived.Test.YtedljfabpknjiaaGreatDoorV14
import Derived.Test.YtedljfabpknjiaaGreatDoorV15
import Derived.Test.YtedljfabpknjiaaGreatDoorV9
import Derived.Test.YtedljfabpknjiaaGreatDoorV11
import Derived.WalkKit
import Derived.ProofKit
import Derived.OpenShut
import Derived.Deep.DeepWitnessRowRef
section
namespace Go.Abs
open Go Go.Proofs
attribute [local irreducible] aCall AWp Sub Spec
theorem nil_strs {l : List ByteArray} (h : nilOf (.d (.sl 1 (strs l))) true) : l = [] := by
 have : (strs l).length = 0 := by
  cases l with
  | nil => rfl
  | cons x r => simp [nilOf, strs] at h
 rw [strs_length] at this; exact List.eq_nil_of_length_eq_zero this
theorem strs_app (a b : List ByteArray) : strs (a ++ b) = strs a ++ strs b := by simp [strs]
def arN (l : List Ar) : List ByteArray := l.map (·.name)
def pcN (l : List Pc) : List ByteArray := l.map (·.name)
def prmF : List Pc → List ByteArray
 | [] => []
 | f :: r => f.params ++ prmF r
theorem prmF_app : ∀ a b : List Pc, prmF (a ++ b) = prmF a ++ prmF b
 | [], _ => rfl
 | f :: a, b => by simp only [List.cons_append, prmF, prmF_app a b, List.append_assoc]
theorem arN_snoc (d : List Ar) (nm : ByteArray) (sz : Int) : strs (arN d) ++ [[str nm]] = strs (arN (d ++ [⟨nm, sz⟩])) := by simp [strs, arN]
theorem pm_snoc (A : List ByteArray) (d : List Pc) (f : Pc) : strs (A ++ prmF (d ++ [f])) = strs (A ++ prmF d) ++ strs f.params := by rw [prmF_app, ← List.append_assoc, strs_app]; simp [prmF]
theorem pn_snoc (d : List Pc) (f : Pc) : strs (pcN (d ++ [f])) = strs (pcN d) ++ [[str f.name]] := by simp [strs, pcN]
theorem prmF_len : ∀ l : List Pc, (prmF l).length ≤ wtP l
 | [] => by simp [prmF]
 | f :: r => by have := prmF_len r; have := wtV_len f.params; simp only [prmF, wtP, List.length_append]; omega
/-- Has an array a wrong size? -/
def arBad : List Ar → Bool
 | [] => false
 | a :: r => match (decide (a.size < 1) || decide (a.size > 16)) with
  | true => true
  | false => arBad r
/-- Are all names of procedures known, each where it stands? -/
def prN (vars an : List ByteArray) (procs : List Pc) : List Pc → Nat → Bool
 | [], _ => true
 | f :: r, i => match (flatB f.body).all (seeN (vars ++ f.params) an (procs.take i)) && tmN (vars ++ f.params) an f.ret with
  | true => prN vars an procs r (i + 1)
  | false => false
/-- Do calls in procedures hand over what is wanted? -/
def prC (procs : List Pc) : List Pc → Nat → Bool
 | [], _ => true
 | f :: r, i => match (flatB f.body).all (seeC (procs.take i)) with
  | true => prC procs r (i + 1)
  | false => false
def ckR (bA bL bD bN bM bC bK : Bool) : Option Nat := match bA with
 | true => some 0
 | false => match bL with
  | true => some 0
  | false => match bD with
   | true => some 2
   | false => match bN with
    | false => some 2
    | true => match bM with
     | false => some 2
     | true => match bC with
      | false => some 1
      | true => match bK with
       | false => some 1
       | true => none
def outE (t : Nat → TypeId) (u : Nat → Value) : Option Nat → PV
 | none => .d (.s .nilIface)
 | some k => .d (.s (.iface (t k) (u k)))
def allN2 (vars : List ByteArray) (arrays : List Ar) (procs : List Pc) : List ByteArray := (vars ++ arN arrays) ++ prmF procs
def bLong (vars : List ByteArray) (arrays : List Ar) (procs : List Pc) : Bool := decide (((strs (allN2 vars arrays procs)).length : Int) > 12) || decide (((strs (pcN procs)).length : Int) > 6)
/-- What check.Check says of a program that has a text. -/
def checkF (vars : List ByteArray) (arrays : List Ar) (procs : List Pc) (main : List Sm) : Option Nat :=
 ckR (arBad arrays) (bLong vars arrays procs) (dupB (allN2 vars arrays procs ++ pcN procs)) (prN vars (arN arrays) procs procs 0) ((flatB main).all (seeN vars (arN arrays) procs)) (prC procs procs 0) ((flatB main).all (seeC procs))
theorem nm_of {vs ay : List ByteArray} {ps : List Pc} {s : Sm} (h : seeN vs ay ps s = true) : NmOk ps s := by
 obtain ⟨kind, name, proc, args, cond, body, els⟩ := s; intro hk; have k := eq_of_beq hk
 have e1 : (kind.toList == (⟨#[115, 101, 116]⟩ : ByteArray).toList) = false := by rw [k]; kernel_rfl
 have e2 : (kind.toList == (⟨#[114, 101, 97, 100]⟩ : ByteArray).toList) = false := by rw [k]; kernel_rfl
 have e3 : (kind.toList == (⟨#[112, 117, 116]⟩ : ByteArray).toList) = false := by rw [k]; kernel_rfl
 simp only [seeN, kindN, e1, e2, e3, hk, Bool.and_eq_true] at h; exact of_decide_eq_true h.1.2
theorem nms_of {vs ay : List ByteArray} {ps : List Pc} {l : List Sm} (h : l.all (seeN vs ay ps) = true) : ∀ x, x ∈ l → NmOk ps x := fun x hx => nm_of (List.all_eq_true.1 h x hx)
theorem prN_at {vars an : List ByteArray} {procs : List Pc} : ∀ {l : List Pc} {k : Nat}, prN vars an procs l k = true → ∀ (j : Nat) (f : Pc), l[j]? = some f → (flatB f.body).all (seeN (vars ++ f.params) an (procs.take (k + j))) = true
 | [], k, _, j, f, hj => by simp at hj
 | g :: r, k, h, j, f, hj => by
  simp only [prN] at h
  cases hq : ((flatB g.body).all (seeN (vars ++ g.params) an (procs.take k)) && tmN (vars ++ g.params) an g.ret) with
  | false => rw [hq] at h; cases h
  | true =>
   rw [hq] at h
   cases j with
   | zero =>
    simp only [List.getElem?_cons_zero, Option.some.injEq] at hj; subst hj; rw [Bool.and_eq_true] at hq; exact hq.1
   | succ j =>
    have := prN_at h j f (by simpa using hj)
    rwa [show k + 1 + j = k + (j + 1) by omega] at this
section
variable {t : Nat → TypeId} {u : Nat → Value}
theorem cloneS_spec (G : Glob) (l : List ByteArray) (hn : l.length ≤ 1000000000) : Spec Tryz.prog G 95 [.d (.sl 1 (strs l))] [] (.ret (.acc 0)) [.acc 9 1 (strs l)] := by
 refine spec_of_awp2 TT_ok (N := 8) Tryz.func95 rfl (by rfl) (Nat.zero_le _) rfl ?_; refine rgs fun E K J O => ?_; refine O _ (aN [0] rfl rfl ?_); clear O J K E; refine awp_seq ?_; refine rgs fun E K J O => ?_; refine pNilS_sl (fun hb => ?_) ?_
 ·obtain rfl := nil_strs hb
  refine O _ (aN [0, 4] rfl rfl ?_); clear O J K E; refine awp_cond rfl ?_; refine rgs fun E K J O => ?_; refine O _ (aN [2] rfl rfl ?_); clear O J K E; refine awp_acc 2 9 1 rfl rfl rfl ?_; refine awp_norm [2] rfl rfl ?_; refine awp_ret ?_; exact ⟨_, [0], _, [.acc 0], rfl, rfl, rfl, rfl, rfl, PWs.refl _, rfl⟩
 refine O _ (aN [0, 4] rfl rfl ?_); clear O J K E; refine awp_cond rfl ?_; refine awp_skip ?_; refine rgs fun E K J O => ?_; refine Or.inr (Or.inr ?_); refine And.intro (And.intro ((by simp only [strs_length, List.length_nil] at *; omega)) ((by simp only [strs_length, List.length_nil, maxLen] at *; omega))) ?_; refine O _ (aN [2] rfl rfl ?_); clear O J K E; refine awp_ret ?_; exact ⟨_, [0], _, [.acc 0], rfl, rfl, rfl, rfl, rfl, PWs.refl _, rfl⟩
theorem check_no (vars : List ByteArray) (arrays : List Ar) (procs : List Pc) (main : List Sm) (w0 : Spec Tryz.prog (GV t u) 22 [.d (.agg (Pg.cs ⟨vars, arrays, procs, main⟩))] [] (.ret (.tup [.d (str ⟨#[]⟩), .d (.s (.iface (t 1) (u 1)))])) []) : Spec Tryz.prog (GV t u) 34 [.d (.agg (Pg.cs ⟨vars, arrays, procs, main⟩))] [] (.ret (.d (.s (.iface (t 1) (u 1))))) [] := by
 refine spec_of_awp2 TT_ok (N := 146) Tryz.func34 rfl (by rfl) (Nat.le_refl _) rfl ?_; refine rgs fun E K J O => ?_; refine O _ (aN [1] rfl rfl ?_); clear O J K E; refine awp_seq ?_; refine rgs fun E K J O => ?_; show aCall _ _ _ _ _ _ _; refine aR [] rfl rfl rfl w0 rfl rfl rfl rfl ?_; refine O _ (aN [1, 4] rfl rfl ?_); clear O J K E; refine rgs fun E K J O => ?_; refine O _ (aN [1, 24] rfl rfl ?_); clear O J K E; refine awp_cond rfl ?_; refine rgs fun E K J O => ?_; refine O _ (aN [2] rfl rfl ?_); clear O J K E; refine awp_ret ?_; exact ⟨_, [], _, [.d (.s (.iface (t 1) (u 1)))], rfl, rfl, rfl, rfl, rfl, PWs.refl _, rfl⟩
set_option maxHeartbeats 2000000 in
def p34_28 : Plan := (.take 0 (.take 1 (.take 3 (.load 4 (.one 2 (.one 5 (.take 6 (.take 7 (.take 8 (.take 9 (.take 11 (.alt 10 (.one 12 (.one 13 (.take 14 (.take 15 .done)))) (.alt 12 (.one 10 (.one 13 (.take 14 (.take 15 .done)))) .done)))))))))))))
def p34_37 : Plan := (.take 0 (.take 1 (.take 3 (.load 4 (.one 2 (.one 5 (.take 6 .done)))))))
theorem check_yes (vars : List ByteArray) (arrays : List Ar) (procs : List Pc) (main : List Sm) (hw0 : wtPg ⟨vars, arrays, procs, main⟩ ≤ 400000000) (t1 : ByteArray) (w1 : Spec Tryz.prog (GV t u) 22 [.d (.agg (Pg.cs ⟨vars, arrays, procs, main⟩))] [] (.ret (.tup [.d (str t1), .d (.s .nilIface)])) []) : Spec Tryz.prog (GV t u) 34 [.d (.agg (Pg.cs ⟨vars, arrays, procs, main⟩))] [] (.ret (outE t u (checkF vars arrays procs main))) [] := by
 have hw := hw0; simp only [wtPg] at hw; have hvl0 := wtV_len vars; have hal0 := wtA_len arrays; have hpl0 := wtP_len procs; have hpf0 := prmF_len procs
 have hbA : arrays.length ≤ 1073741824 := by omega
 have hbP : procs.length ≤ 1073741824 := by omega
 have hC := concat_spec (GV t u)
 have han0 : (arN arrays).length = arrays.length := by simp [arN]
 have han : (arN arrays).length ≤ 1073741824 := by omega
 have hpn0 : (pcN procs).length = procs.length := by simp [pcN]
 obtain ⟨R, hR⟩ : ∃ R, checkF vars arrays procs main = R := ⟨_, rfl⟩; rw [hR]
 unfold checkF at hR
 have hdup : bLong vars arrays procs = false → Spec Tryz.prog (GV t u) 96 [.d (.sl 1 (strs ((vars ++ arN arrays) ++ prmF procs) ++ strs (pcN procs)))] [] (.ret (.d (.s (.bool (dupB (allN2 vars arrays procs ++ pcN procs)))))) [] := fun hb => by
  have hlen : (allN2 vars arrays procs ++ pcN procs).length ≤ 1000000 := by
   unfold bLong at hb
   rw [Bool.or_eq_false_iff] at hb; have q1 := of_decide_eq_false hb.1; have q2 := of_decide_eq_false hb.2; rw [strs_length] at q1 q2; rw [List.length_append]; omega
  have := twice_spec (GV t u) (allN2 vars arrays procs ++ pcN procs) hlen
  rwa [strs_app] at this
 obtain ⟨bA, hA⟩ : ∃ b, arBad arrays = b := ⟨_, rfl⟩; obtain ⟨bL, hL⟩ : ∃ b, bLong vars arrays procs = b := ⟨_, rfl⟩; obtain ⟨bD, hD⟩ : ∃ b, dupB (allN2 vars arrays procs ++ pcN procs) = b := ⟨_, rfl⟩; obtain ⟨bN, hN⟩ : ∃ b, prN vars (arN arrays) procs procs 0 = b := ⟨_, rfl⟩; obtain ⟨bM, hM⟩ : ∃ b, (flatB main).all (seeN vars (arN arrays) procs) = b := ⟨_, rfl⟩; obtain ⟨bC, hCC⟩ : ∃ b, prC procs procs 0 = b := ⟨_, rfl⟩; obtain ⟨bK, hKB⟩ : ∃ b, (flatB main).all (seeC procs) = b := ⟨_, rfl⟩; rw [hA, hL, hD, hN, hM, hCC, hKB] at hR; have hL0 := hL; have hL : (decide (((strs ((vars ++ arN arrays) ++ prmF procs)).length : Int) > 12) || decide (((strs (pcN procs)).length : Int) > 6)) = bL := hL0; have hmn := stmts_spec (GV t u) vars (arN arrays) procs (by omega) han (by omega) main (by omega); rw [hM] at hmn; rw [hD] at hdup; have hal := at_all (GV t u) vars arrays procs main (arN arrays); rw [← pcs_length procs] at hal; have hNN := hN; refine spec_of_awp2 TT_ok (N := 146) Tryz.func34 rfl (by rfl) (Nat.le_refl _) rfl ?_; refine rgs fun E K J O => ?_; refine O _ (aN [1] rfl rfl ?_); clear O J K E; refine awp_seq ?_; refine rgs fun E K J O => ?_; show aCall _ _ _ _ _ _ _; refine aR [] rfl rfl rfl w1 rfl rfl rfl rfl ?_; refine O _ (aN [1, 4] rfl rfl ?_); clear O J K E; refine rgs fun E K J O => ?_; refine O _ (aN [1, 24] rfl rfl ?_); clear O J K E; refine awp_cond rfl ?_; refine awp_skip ?_; refine rgs fun E K J O => ?_; show aCall _ _ _ _ _ _ _; refine aR [] rfl rfl rfl (cloneS_spec (GV t u) vars (by omega)) rfl rfl rfl rfl ?_; refine O _ (aN [1, 5] rfl rfl ?_); clear O J K E; refine rgs fun E K J O => ?_; refine O _ (aN [1, 5, 6, 7] rfl rfl ?_); clear O J K E; refine awp_acc 7 9 1 rfl rfl rfl ?_; refine awp_accCell 2 0 9 1 rfl rfl rfl rfl ?_; refine awp_norm [1, 5, 6, 7] rfl rfl ?_; refine awp_seq ?_; refine rgs fun E K J O => ?_; refine O _ (aN [1, 5, 6, 7, 30, 31, 32] rfl rfl ?_); clear O J K E; refine awp_block ?_; refine awp_loop (fun k Y => ∃ (d1 e1 : List Ar) , k = e1.length ∧ arrays = d1 ++ e1 ∧ arBad e1 = bA ∧ Y = ⟨[(1, .box 0 0), (5, .acc 1), (6, .box 2 0), (7, .acc 3), (30, .d (.sl 2 (ars arrays))), (31, .d (num (ars arrays).length)), (32, .d (num d1.length))], [.box 28 [.d (.sl 1 (strs vars)), .d (.sl 2 (ars arrays)), .d (.sl 7 (pcs procs)), .d (.sl 7 (sms main))], .acc 9 1 (strs vars), .box 23 [.acc 4], .acc 9 1 [], .acc 9 1 (strs (arN d1))]⟩) (arrays.length) (⟨[], arrays, rfl, rfl, hA, rfl⟩) ?_; clear hA; rintro k Y ⟨d1, e1, rfl, hl1, hA, rfl⟩
 have hll1 : (ars arrays).length = d1.length + e1.length := by rw [ars, List.length_map, hl1, List.length_append]
 have hdl1 : d1.length + e1.length ≤ 1073741824 := by rw [hl1, List.length_append] at hbA; exact hbA
 refine rgs fun E K J O => ?_; refine O _ (aN [1, 5, 6, 7, 30, 31, 32, 33] rfl rfl ?_); clear O J K E; refine awp_seq ?_; refine awp_cond2 rfl (onB_intro (fun h1 => ?_) (fun h1 => ?_))
 ·have h1' := of_decide_eq_true h1
  rw [hll1] at h1'
  cases e1 with
  | nil => simp only [List.length_nil] at h1'; omega
  | cons x e1b =>
  obtain ⟨nm, sz⟩ := x; subst hl1; simp only [List.length_cons] at hdl1; simp only [arBad] at hA
  have hdn : (arN d1).length = d1.length := by simp [arN]
  refine awp_skip ?_; refine awp_seq ?_; refine awp_block ?_; refine rgs fun E K J O => ?_; refine And.intro (by omega) (Exists.intro _ (And.intro (ars_at rfl) ?_)); refine O _ (aN [1, 5, 6, 7, 9, 30, 31, 32] rfl rfl ?_); clear O J K E; refine rgs fun E K J O => ?_; refine And.intro (And.intro ((by simp only [strs_length, pcs_length, List.length_append, chunk_length, List.length_cons, List.length_nil] at *; omega)) ((by simp only [strs_length, pcs_length, List.length_append, chunk_length, List.length_cons, List.length_nil, maxLen] at *; omega))) ?_; refine O _ (aN [1, 5, 6, 7, 9, 30, 31, 32] rfl rfl ?_); clear O J K E; refine rgs fun E K J O => ?_; refine onB_intro (fun h2 => ?_) (fun h2 => ?_)
  ·simp only [h2, bn] at hA
   refine O _ (aN [1, 5, 6, 7, 30, 31, 32, 48] rfl rfl ?_); clear O J K E; refine awp_cond rfl ?_; refine rgs fun E K J O => ?_; refine O _ (aN [2] rfl rfl ?_); clear O J K E; refine awp_ret ?_; subst hA; simp only [ckR] at hR; subst hR; exact ⟨_, [], _, [.d (.s (.iface (t 0) (u 0)))], rfl, rfl, rfl, rfl, rfl, PWs.refl _, rfl⟩
  simp only [h2, bn] at hA; refine O _ (aN [1, 5, 6, 7, 30, 31, 32, 48] rfl rfl ?_); clear O J K E; refine awp_cond2 rfl (onB_intro (fun h3 => ?_) (fun h3 => ?_))
  ·simp only [h3] at hA
   refine rgs fun E K J O => ?_; refine O _ (aN [2] rfl rfl ?_); clear O J K E; refine awp_ret ?_; subst hA; simp only [ckR] at hR; subst hR; exact ⟨_, [], _, [.d (.s (.iface (t 0) (u 0)))], rfl, rfl, rfl, rfl, rfl, PWs.refl _, rfl⟩
  simp only [h3] at hA; refine awp_skip ?_; refine rgn fun E K J O => ?_; refine O _ ?_; clear O J K E; exact ⟨_, Nat.lt_succ_self _, _, sub_pick (L := [0, 1, 2, 3, 4]) (slots := [1, 5, 6, 7, 30, 31, 32]) rfl rfl rfl rfl rfl, d1 ++ [⟨nm, sz⟩], e1b, rfl, by simp, hA, by rw [← arN_snoc, List.length_append, wrapId (by omega) (by omega)]; rfl⟩
 have h1' := of_decide_eq_false h1; rw [hll1] at h1'; obtain rfl : e1 = [] := List.eq_nil_of_length_eq_zero (by omega); simp only [arBad] at hA; subst hA; rw [List.append_nil] at hl1; subst hl1; refine awp_exit ?_; refine awp_norm [1, 5, 6, 7] rfl rfl ?_; refine rgs fun E K J O => ?_; refine And.intro (And.intro ((by simp only [strs_length, pcs_length, List.length_append, List.length_nil] at *; omega)) ((by simp only [strs_length, pcs_length, List.length_append, List.length_nil, maxLen] at *; omega))) ?_; refine O _ (aN [1, 5, 6, 7] rfl rfl ?_); clear O J K E; refine awp_seq ?_; refine rgs fun E K J O => ?_; refine O _ (aN [1, 5, 6, 7, 55, 56, 57] rfl rfl ?_); clear O J K E; refine awp_block ?_; refine awp_loop (fun k Y => ∃ (d2 e2 : List Pc), k = e2.length ∧ procs = d2 ++ e2 ∧ Y = ⟨[(1, .box 0 0), (5, .acc 1), (6, .box 2 0), (7, .acc 3), (55, .d (.sl 7 (pcs procs))), (56, .d (num (pcs procs).length)), (57, .d (num d2.length))], [.box 28 [.d (.sl 1 (strs vars)), .d (.sl 2 (ars arrays)), .d (.sl 7 (pcs procs)), .d (.sl 7 (sms main))], .acc 9 1 (strs ((vars ++ arN arrays) ++ prmF d2)), .box 23 [.acc 4], .acc 9 1 (strs (pcN d2)), .acc 9 1 (strs (arN arrays))]⟩) (procs.length) (⟨[], procs, rfl, rfl, by rw [show prmF [] = [] from rfl, List.append_nil, strs_app]; rfl⟩) ?_; rintro k Y ⟨d2, e2, rfl, hl2, rfl⟩
 have hll2 : (pcs procs).length = d2.length + e2.length := by rw [pcs_length, hl2, List.length_append]
 have hdl2 : d2.length + e2.length ≤ 1073741824 := by rw [hl2, List.length_append] at hbP; exact hbP
 refine rgs fun E K J O => ?_; refine O _ (aN [1, 5, 6, 7, 55, 56, 57, 58] rfl rfl ?_); clear O J K E; refine awp_seq ?_; refine awp_cond2 rfl (onB_intro (fun h2 => ?_) (fun h2 => ?_))
 ·have h2' := of_decide_eq_true h2
  rw [hll2] at h2'
  cases e2 with
  | nil => simp only [List.length_nil] at h2'; omega
  | cons x e2b =>
  obtain ⟨nm, pr, bd, ⟨o1, n1, m1, l1⟩⟩ := x; subst hl2; simp only [List.length_cons] at hdl2; have hpl := prmF_len (d2 ++ ⟨nm, pr, bd, .mk o1 n1 m1 l1⟩ :: e2b); simp only [prmF_app, prmF, List.length_append] at hpl
  have hdn : (pcN d2).length = d2.length := by simp [pcN]
  have hda : (arN arrays).length = arrays.length := by simp [arN]
  refine awp_skip ?_; refine awp_seq ?_; refine awp_block ?_; refine rgs fun E K J O => ?_; refine And.intro (by omega) (Exists.intro _ (And.intro (pcs_at rfl) ?_)); refine O _ (aN [1, 5, 6, 7, 11, 55, 56, 57] rfl rfl ?_); clear O J K E; refine rgs fun E K J O => ?_; refine And.intro (And.intro ((by simp only [strs_length, pcs_length, List.length_append, List.length_cons, List.length_nil] at *; omega)) ((by simp only [strs_length, pcs_length, List.length_append, List.length_cons, List.length_nil, maxLen] at *; omega))) ?_; refine O _ (aN [1, 5, 6, 7, 11, 55, 56, 57] rfl rfl ?_); clear O J K E; refine rgn fun E K J O => ?_; refine And.intro (And.intro ((by simp only [strs_length, pcs_length, List.length_append, chunk_length, List.length_cons, List.length_nil] at *; omega)) ((by simp only [strs_length, pcs_length, List.length_append, chunk_length, List.length_cons, List.length_nil, maxLen] at *; omega))) ?_; refine O _ (aN [1, 5, 6, 7, 55, 56, 57] rfl rfl ?_); clear O J K E; refine rgn fun E K J O => ?_; refine O _ ?_; clear O J K E; exact ⟨_, Nat.lt_succ_self _, _, sub_pick (L := [0, 1, 2, 3, 4]) (slots := [1, 5, 6, 7, 55, 56, 57]) rfl rfl rfl rfl rfl, d2 ++ [⟨nm, pr, bd, .mk o1 n1 m1 l1⟩], e2b, rfl, by simp, by rw [pm_snoc, pn_snoc, List.length_append, wrapId (by omega) (by omega)]; rfl⟩
 have h2' := of_decide_eq_false h2; rw [hll2] at h2'; obtain rfl : e2 = [] := List.eq_nil_of_length_eq_zero (by omega); rw [List.append_nil] at hl2; subst hl2; refine awp_exit ?_; refine awp_norm [1, 5, 6, 7] rfl rfl ?_; refine awp_seq ?_; refine rgs fun E K J O => ?_; refine onB_intro (fun h3 => ?_) (fun h3 => ?_)
 ·have hz74 : decide (((strs ((vars ++ arN arrays) ++ prmF procs)).length : Int) > 12) = true := h3
  simp only [hz74, bn] at hL; refine O _ (aN [1, 5, 6, 7, 78] rfl rfl ?_); clear O J K E; refine awp_cond rfl ?_; refine rgs fun E K J O => ?_; refine O _ (aN [2] rfl rfl ?_); clear O J K E; refine awp_ret ?_; subst hL; simp only [ckR] at hR; subst hR; exact ⟨_, [], _, [.d (.s (.iface (t 0) (u 0)))], rfl, rfl, rfl, rfl, rfl, PWs.refl _, rfl⟩
 have hz74 : decide (((strs ((vars ++ arN arrays) ++ prmF procs)).length : Int) > 12) = false := h3; simp only [hz74, bn] at hL; refine O _ (aN [1, 5, 6, 7, 78] rfl rfl ?_); clear O J K E; refine awp_cond2 rfl (onB_intro (fun h4 => ?_) (fun h4 => ?_))
 ·have hz78 : decide (((strs (pcN procs)).length : Int) > 6) = true := h4
  simp only [hz78] at hL; refine rgs fun E K J O => ?_; refine O _ (aN [2] rfl rfl ?_); clear O J K E; refine awp_ret ?_; subst hL; simp only [ckR] at hR; subst hR; exact ⟨_, [], _, [.d (.s (.iface (t 0) (u 0)))], rfl, rfl, rfl, rfl, rfl, PWs.refl _, rfl⟩
 have hz78 : decide (((strs (pcN procs)).length : Int) > 6) = false := h4; simp only [hz78] at hL; subst hL; refine awp_skip ?_; refine awp_seq ?_; refine rgs fun E K J O => ?_; refine And.intro (And.intro ((by simp only [strs_length, pcs_length, List.length_append, List.length_nil] at *; omega)) ((by simp only [strs_length, pcs_length, List.length_append, List.length_nil, maxLen] at *; omega))) ?_
 show aCall _ _ _ _ _ _ _
 cases bD with
 | true =>
  refine aR [] rfl rfl rfl (hdup hL0) rfl rfl rfl rfl ?_; refine O _ (aN [1, 6, 83] rfl rfl ?_); clear O J K E; refine awp_cond rfl ?_; refine rgs fun E K J O => ?_; refine O _ (aN [2] rfl rfl ?_); clear O J K E; refine awp_ret ?_; simp only [ckR] at hR; subst hR; exact ⟨_, [], _, [.d (.s (.iface (t 2) (u 2)))], rfl, rfl, rfl, rfl, rfl, PWs.refl _, rfl⟩
 | false =>
  refine aR [] rfl rfl rfl (hdup hL0) rfl rfl rfl rfl ?_; refine O _ (aN [1, 6, 83] rfl rfl ?_); clear O J K E; refine awp_cond rfl ?_; refine awp_skip ?_; refine awp_cut (fun Z => Z = ⟨[(1, .box 0 0), (12, .fn 97 [.box 0 0, .box 1 0])], (AtR vars arrays procs main (arN arrays))⟩) ?_ ?_
  ·refine rgn fun E K J O => ?_; refine O _ ?_; clear O J K E
   exact ⟨_, sub_pick (L := [0, 2]) (slots := [1, 12]) rfl rfl rfl rfl rfl, rfl⟩
  rintro Z rfl; refine awp_seq ?_; refine rgs fun E K J O => ?_; refine O _ (aN [1, 12, 87, 88, 89] rfl rfl ?_); clear O J K E; refine awp_block ?_; refine awp_loop (fun k Y => ∃ (d3 e3 : List Pc) , k = e3.length ∧ procs = d3 ++ e3 ∧ prN vars (arN arrays) procs e3 d3.length = bN ∧ Y = ⟨[(1, .box 0 0), (12, .fn 97 [.box 0 0, .box 1 0]), (87, .d (.sl 7 (pcs procs))), (88, .d (num (pcs procs).length)), (89, .d (num d3.length))], (AtR vars arrays procs main (arN arrays))⟩) (procs.length) (⟨[], procs, rfl, rfl, hN, rfl⟩) ?_; clear hN; rintro k Y ⟨d3, e3, rfl, hl3, hN, rfl⟩
  have hll3 : (pcs procs).length = d3.length + e3.length := by rw [pcs_length, hl3, List.length_append]
  have hdl3 : d3.length + e3.length ≤ 1073741824 := by rw [hl3, List.length_append] at hbP; exact hbP
  refine rgs fun E K J O => ?_; refine O _ (aN [1, 12, 87, 88, 89, 90] rfl rfl ?_); clear O J K E; refine awp_seq ?_; refine awp_cond2 rfl (onB_intro (fun h5 => ?_) (fun h5 => ?_))
  ·have h5' := of_decide_eq_true h5
   rw [hll3] at h5'
   cases e3 with
   | nil => simp only [List.length_nil] at h5'; omega
   | cons x e3b =>
   obtain ⟨nm, pr, bd, ⟨o1, n1, m1, l1⟩⟩ := x; subst hl3; simp only [List.length_cons] at hdl3; simp only [prN] at hN
   have hi : d3.length < (d3 ++ ⟨nm, pr, bd, .mk o1 n1 m1 l1⟩ :: e3b).length := by simp
   have hf : (d3 ++ ⟨nm, pr, bd, .mk o1 n1 m1 l1⟩ :: e3b)[d3.length]? = some ⟨nm, pr, bd, .mk o1 n1 m1 l1⟩ := by simp
   have hwx := wtP_app d3 (⟨nm, pr, bd, .mk o1 n1 m1 l1⟩ :: e3b); simp only [wtP] at hwx; have hpv := wtV_len pr; have hat := at_one (GV t u) hC vars arrays (d3 ++ ⟨nm, pr, bd, .mk o1 n1 m1 l1⟩ :: e3b) main (arN arrays) d3.length hi (by omega) _ hf (by simp only; omega)
   have htk : ((d3 ++ ⟨nm, pr, bd, .mk o1 n1 m1 l1⟩ :: e3b).take d3.length).length ≤ 1073741824 := by rw [List.length_take]; omega
   have hvl : (vars ++ pr).length ≤ 1073741824 := by rw [List.length_append]; omega
   have hst := stmts_spec (GV t u) (vars ++ pr) (arN arrays) ((d3 ++ ⟨nm, pr, bd, .mk o1 n1 m1 l1⟩ :: e3b).take d3.length) hvl han htk bd (by omega); have htm := place_term (GV t u) (vars ++ pr) (arN arrays) ((d3 ++ ⟨nm, pr, bd, .mk o1 n1 m1 l1⟩ :: e3b).take d3.length) hvl han (.mk o1 n1 m1 l1) (by omega); refine awp_skip ?_; refine awp_seq ?_; refine awp_block ?_; refine rgs fun E K J O => ?_; refine And.intro (by omega) (Exists.intro _ (And.intro (pcs_at rfl) ?_)); refine O _ (aN [1, 12, 13, 14, 87, 88, 89] rfl rfl ?_); clear O J K E; refine awp_seq ?_; refine (awp_draw TT_ok mixed p34_28 [5, 10, 13] (fun i => Nat.beq i 2) (by kernel_rfl) fun E K J O => ?_)
   show aCall _ _ _ _ _ _ _
   refine aR [0, 1] rfl rfl rfl hat rfl rfl rfl rfl ?_
   show aCall _ _ _ _ _ _ _
   refine aR [] rfl rfl rfl hst rfl rfl rfl rfl ?_; refine onB_intro (fun h6 => ?_) (fun h6 => ?_)
   ·try simp only [Bool.not_eq_true'] at h6
    simp only [h6, bn] at hN; refine And.intro ?_ ?_
    ·refine O _ (aN [1, 12, 87, 88, 89, 109] rfl rfl ?_); clear O J K E; refine awp_cond rfl ?_; refine rgs fun E K J O => ?_; refine O _ (aN [2] rfl rfl ?_); clear O J K E; refine awp_ret ?_
     subst hN; simp only [ckR] at hR; subst hR; exact ⟨_, [], _, [.d (.s (.iface (t 2) (u 2)))], rfl, rfl, rfl, rfl, rfl, PWs.refl _, rfl⟩
    refine And.intro ?_ ?_
    ·refine O _ (aN [1, 12, 87, 88, 89, 109] rfl rfl ?_); clear O J K E; refine awp_cond rfl ?_; refine rgs fun E K J O => ?_; refine O _ (aN [2] rfl rfl ?_); clear O J K E; refine awp_ret ?_
     subst hN; simp only [ckR] at hR; subst hR; exact ⟨_, [], _, [.d (.s (.iface (t 2) (u 2)))], rfl, rfl, rfl, rfl, rfl, PWs.refl _, rfl⟩
    trivial
   try simp only [Bool.not_eq_false'] at h6
   simp only [h6, bn] at hN; refine And.intro ?_ ?_
   ·show aCall _ _ _ _ _ _ _
    refine aR [0, 1] rfl rfl rfl hat rfl rfl rfl rfl ?_
    show aCall _ _ _ _ _ _ _
    refine aR [] rfl rfl rfl htm rfl rfl rfl rfl ?_; refine O _ (aN [1, 12, 87, 88, 89, 109] rfl rfl ?_); clear O J K E; refine awp_cond2 rfl (onB_intro (fun h7 => ?_) (fun h7 => ?_))
    ·try simp only [Bool.not_eq_true'] at h7
     simp only [h7] at hN; refine rgs fun E K J O => ?_; refine O _ (aN [2] rfl rfl ?_); clear O J K E; refine awp_ret ?_; subst hN; simp only [ckR] at hR; subst hR; exact ⟨_, [], _, [.d (.s (.iface (t 2) (u 2)))], rfl, rfl, rfl, rfl, rfl, PWs.refl _, rfl⟩
    try simp only [Bool.not_eq_false'] at h7
    simp only [h7] at hN; refine awp_skip ?_; refine rgn fun E K J O => ?_; refine O _ ?_; clear O J K E; exact ⟨_, Nat.lt_succ_self _, _, sub_pick (L := [0, 1]) (slots := [1, 12, 87, 88, 89]) rfl rfl rfl rfl rfl, d3 ++ [⟨nm, pr, bd, .mk o1 n1 m1 l1⟩], e3b, rfl, by simp, by rw [List.length_append]; exact hN, by rw [List.length_append, wrapId (by omega) (by omega)]; rfl⟩
   refine And.intro ?_ ?_
   ·show aCall _ _ _ _ _ _ _
    refine aR [0, 1] rfl rfl rfl hat rfl rfl rfl rfl ?_
    show aCall _ _ _ _ _ _ _
    refine aR [] rfl rfl rfl htm rfl rfl rfl rfl ?_; refine O _ (aN [1, 12, 87, 88, 89, 109] rfl rfl ?_); clear O J K E; refine awp_cond2 rfl (onB_intro (fun h7 => ?_) (fun h7 => ?_))
    ·try simp only [Bool.not_eq_true'] at h7
     simp only [h7] at hN; refine rgs fun E K J O => ?_; refine O _ (aN [2] rfl rfl ?_); clear O J K E; refine awp_ret ?_; subst hN; simp only [ckR] at hR; subst hR; exact ⟨_, [], _, [.d (.s (.iface (t 2) (u 2)))], rfl, rfl, rfl, rfl, rfl, PWs.refl _, rfl⟩
    try simp only [Bool.not_eq_false'] at h7
    simp only [h7] at hN; refine awp_skip ?_; refine rgn fun E K J O => ?_; refine O _ ?_; clear O J K E; exact ⟨_, Nat.lt_succ_self _, _, sub_pick (L := [0, 1]) (slots := [1, 12, 87, 88, 89]) rfl rfl rfl rfl rfl, d3 ++ [⟨nm, pr, bd, .mk o1 n1 m1 l1⟩], e3b, rfl, by simp, by rw [List.length_append]; exact hN, by rw [List.length_append, wrapId (by omega) (by omega)]; rfl⟩
   trivial
  have h5' := of_decide_eq_false h5; rw [hll3] at h5'; obtain rfl : e3 = [] := List.eq_nil_of_length_eq_zero (by omega); simp only [prN] at hN; subst hN; refine awp_exit ?_; refine awp_norm [1, 12] rfl rfl ?_; refine rgs fun E K J O => ?_; show aCall _ _ _ _ _ _ _; refine aR [0, 1] rfl rfl rfl hal rfl rfl rfl rfl ?_; refine O _ (aN [1, 12, 15] rfl rfl ?_); clear O J K E; refine awp_cut (fun Z => Z = ⟨[(1, .box 0 0), (12, .fn 97 [.box 0 0, .box 1 0]), (15, .box 2 0)], AtR vars arrays procs main (arN arrays) ++ PlR vars (arN arrays) procs⟩ ∧ bM = true) ?_ ?_
  ·refine rgs fun E K J O => ?_; show aCall _ _ _ _ _ _ _
   cases bM with
   | true =>
    refine aR [] rfl rfl rfl hmn rfl rfl rfl rfl ?_; refine O _ (aN [1, 12, 15, 121] rfl rfl ?_); clear O J K E; refine awp_cond rfl ?_; refine awp_skip ?_; exact ⟨_, sub_norm (slots := [1, 12, 15]) rfl rfl, rfl, rfl⟩
   | false =>
    refine aR [] rfl rfl rfl hmn rfl rfl rfl rfl ?_; refine O _ (aN [1, 12, 15, 121] rfl rfl ?_); clear O J K E; refine awp_cond rfl ?_; refine rgs fun E K J O => ?_; refine O _ (aN [2] rfl rfl ?_); clear O J K E; refine awp_ret ?_; simp only [ckR] at hR; subst hR; exact ⟨_, [], _, [.d (.s (.iface (t 2) (u 2)))], rfl, rfl, rfl, rfl, rfl, PWs.refl _, rfl⟩
  rintro Z ⟨rfl, hbM⟩; subst hbM; refine awp_seq ?_; refine rgs fun E K J O => ?_; refine O _ (aN [1, 12, 15, 124, 125, 126] rfl rfl ?_); clear O J K E; refine awp_block ?_; refine awp_loop (fun k Y => ∃ (d4 e4 : List Pc) , k = e4.length ∧ procs = d4 ++ e4 ∧ prC procs e4 d4.length = bC ∧ Y = ⟨[(1, .box 0 0), (12, .fn 97 [.box 0 0, .box 1 0]), (15, .box 2 0), (124, .d (.sl 7 (pcs procs))), (125, .d (num (pcs procs).length)), (126, .d (num d4.length))], (AtR vars arrays procs main (arN arrays) ++ PlR vars (arN arrays) procs)⟩) (procs.length) (⟨[], procs, rfl, rfl, hCC, rfl⟩) ?_; clear hCC; rintro k Y ⟨d4, e4, rfl, hl4, hCC, rfl⟩
  have hll4 : (pcs procs).length = d4.length + e4.length := by rw [pcs_length, hl4, List.length_append]
  have hdl4 : d4.length + e4.length ≤ 1073741824 := by rw [hl4, List.length_append] at hbP; exact hbP
  refine rgs fun E K J O => ?_; refine O _ (aN [1, 12, 15, 124, 125, 126, 127] rfl rfl ?_); clear O J K E; refine awp_seq ?_; refine awp_cond2 rfl (onB_intro (fun h6 => ?_) (fun h6 => ?_))
  ·have h6' := of_decide_eq_true h6
   rw [hll4] at h6'
   cases e4 with
   | nil => simp only [List.length_nil] at h6'; omega
   | cons x e4b =>
   obtain ⟨nm, pr, bd, ⟨o1, n1, m1, l1⟩⟩ := x; subst hl4; simp only [List.length_cons] at hdl4; simp only [prC] at hCC
   have hi : d4.length < (d4 ++ ⟨nm, pr, bd, .mk o1 n1 m1 l1⟩ :: e4b).length := by simp
   have hf : (d4 ++ ⟨nm, pr, bd, .mk o1 n1 m1 l1⟩ :: e4b)[d4.length]? = some ⟨nm, pr, bd, .mk o1 n1 m1 l1⟩ := by simp
   have hwx := wtP_app d4 (⟨nm, pr, bd, .mk o1 n1 m1 l1⟩ :: e4b); simp only [wtP] at hwx; have hpv := wtV_len pr; have hat := at_one (GV t u) hC vars arrays (d4 ++ ⟨nm, pr, bd, .mk o1 n1 m1 l1⟩ :: e4b) main (arN arrays) d4.length hi (by omega) _ hf (by simp only; omega)
   have htk : ((d4 ++ ⟨nm, pr, bd, .mk o1 n1 m1 l1⟩ :: e4b).take d4.length).length ≤ 1073741824 := by rw [List.length_take]; omega
   have hvl : (vars ++ pr).length ≤ 1073741824 := by rw [List.length_append]; omega
   have hnm := nms_of (prN_at hNN _ _ hf); rw [Nat.zero_add] at hnm; have hca := calls_spec (GV t u) (vars ++ pr) (arN arrays) ((d4 ++ ⟨nm, pr, bd, .mk o1 n1 m1 l1⟩ :: e4b).take d4.length) htk bd (by omega) hnm; refine awp_skip ?_; refine awp_seq ?_; refine awp_block ?_; refine rgs fun E K J O => ?_; refine And.intro (by omega) (Exists.intro _ (And.intro (pcs_at rfl) ?_)); refine O _ (aN [1, 12, 15, 16, 17, 124, 125, 126] rfl rfl ?_); clear O J K E; refine awp_seq ?_; refine (awp_draw TT_ok mixed p34_37 [5] (fun i => Nat.beq i 3) (by kernel_rfl) fun E K J O => ?_)
   show aCall _ _ _ _ _ _ _
   refine aR [0, 1] rfl rfl rfl hat rfl rfl rfl rfl ?_
   show aCall _ _ _ _ _ _ _
   refine aR [] rfl rfl rfl hca rfl rfl rfl rfl ?_; refine O _ (aN [1, 12, 15, 124, 125, 126, 137] rfl rfl ?_); clear O J K E; refine awp_cond2 rfl (onB_intro (fun h7 => ?_) (fun h7 => ?_))
   ·try simp only [Bool.not_eq_true'] at h7
    simp only [h7] at hCC; refine rgs fun E K J O => ?_; refine O _ (aN [2] rfl rfl ?_); clear O J K E; refine awp_ret ?_; subst hCC; simp only [ckR] at hR; subst hR; exact ⟨_, [], _, [.d (.s (.iface (t 1) (u 1)))], rfl, rfl, rfl, rfl, rfl, PWs.refl _, rfl⟩
   try simp only [Bool.not_eq_false'] at h7
   simp only [h7] at hCC; refine awp_skip ?_; refine rgn fun E K J O => ?_; refine O _ ?_; clear O J K E; exact ⟨_, Nat.lt_succ_self _, _, sub_pick (L := [0, 1, 2]) (slots := [1, 12, 15, 124, 125, 126]) rfl rfl rfl rfl rfl, d4 ++ [⟨nm, pr, bd, .mk o1 n1 m1 l1⟩], e4b, rfl, by simp, by rw [List.length_append]; exact hCC, by rw [List.length_append, wrapId (by omega) (by omega)]; rfl⟩
  have h6' := of_decide_eq_false h6; rw [hll4] at h6'; obtain rfl : e4 = [] := List.eq_nil_of_length_eq_zero (by omega); simp only [prC] at hCC; subst hCC; refine awp_exit ?_; refine awp_norm [1, 15] rfl rfl ?_; refine awp_seq ?_; refine rgs fun E K J O => ?_; show aCall _ _ _ _ _ _ _; have hmc := calls_spec (GV t u) vars (arN arrays) procs (by omega) main (by omega) (nms_of hM); rw [hKB] at hmc
  cases bK with
  | true =>
   refine aR [] rfl rfl rfl hmc rfl rfl rfl rfl ?_; refine O _ (aN [144] rfl rfl ?_); clear O J K E; refine awp_cond rfl ?_; refine awp_skip ?_; refine rgs fun E K J O => ?_; refine O _ (aN [2] rfl rfl ?_); clear O J K E; refine awp_ret ?_; simp only [ckR] at hR; subst hR; exact ⟨_, [], _, [.d (.s .nilIface)], rfl, rfl, rfl, rfl, rfl, PWs.refl _, rfl⟩
  | false =>
   refine aR [] rfl rfl rfl hmc rfl rfl rfl rfl ?_; refine O _ (aN [144] rfl rfl ?_); clear O J K E; refine awp_cond rfl ?_; refine rgs fun E K J O => ?_; refine O _ (aN [2] rfl rfl ?_); clear O J K E; refine awp_ret ?_; simp only [ckR] at hR; subst hR; exact ⟨_, [], _, [.d (.s (.iface (t 1) (u 1)))], rfl, rfl, rfl, rfl, rfl, PWs.refl _, rfl⟩
end
end Go.Abs
end
section
namespace Go.Abs
open Go Go.Proofs
attribute [local irreducible] aCall AWp Sub Spec
/-- Is a name there again, further on? -/
def dupR (l : List ByteArray) : List ByteArray → Nat → Bool
 | [], _ => false
 | x :: r, i => match hasB (l.take i) x with
  | true => true
  | false => dupR l r (i + 1)
def prR (procs : List Pc) : List Pc → Bool
 | [] => true
 | f :: r => (flatB f.body).all (seeC procs) && prR procs r
def codeR : Option Nat → Int
 | some 0 => 2
 | some 1 => 3
 | some 2 => 5
 | _ => 0
theorem strs_take (l : List ByteArray) (i : Nat) : strs (l.take i) = (strs l).take i := by simp [strs]
theorem procJ_take (v : ByteArray) : ∀ (l : List Pc) (i k : Nat), procJ v (l.take k) i ≥ 0 → procJ v l i = procJ v (l.take k) i
 | [], i, k, h => by simp at h ⊢
 | f :: r, i, 0, h => absurd h (by simp [procJ])
 | f :: r, i, k + 1, h => by
  simp only [List.take_succ_cons, procJ] at h ⊢
  cases hq : (f.name.toList == v.toList) with
  | true => rfl
  | false =>
   rw [hq] at h; exact procJ_take v r (i + 1) k h
theorem nm_take {ps : List Pc} {i : Nat} {s : Sm} (h : NmOk (ps.take i) s) : NmOk ps s := by
 obtain ⟨kind, name, proc, args, cond, body, els⟩ := s; intro hk; have := h hk; rw [procJ_take proc ps 0 i this]; exact this
theorem seeC_take {ps : List Pc} {i : Nat} {s : Sm} (h : NmOk (ps.take i) s) : seeC (ps.take i) s = seeC ps s := by
 obtain ⟨kind, name, proc, args, cond, body, els⟩ := s; simp only [seeC]
 cases hk : (kind.toList == (⟨#[99, 97, 108, 108]⟩ : ByteArray).toList) with
 | false => rfl
 | true =>
  have hj := h hk; have e := procJ_take proc ps 0 i hj; obtain ⟨j, f, h1, h2⟩ := procJ_at proc (ps.take i) 0 hj
  have hp : parms (ps.take i) proc = parms ps proc := by
   unfold parms
   rw [e]
   have hjn : (procJ proc (ps.take i) 0).toNat = j := by omega
   rw [hjn, h1]; rw [List.getElem?_take] at h1; split at h1
   ·rw [h1]
   cases h1
  simp only [hp]
theorem all_take {ps : List Pc} {i : Nat} : ∀ {l : List Sm}, (∀ x, x ∈ l → NmOk (ps.take i) x) → l.all (seeC (ps.take i)) = l.all (seeC ps)
 | [], _ => rfl
 | x :: r, h => by
  simp only [List.all_cons]; rw [seeC_take (h x (List.mem_cons_self)), all_take fun y hy => h y (List.mem_cons_of_mem _ hy)]
theorem prC_eq {procs : List Pc} : ∀ {l : List Pc} {k : Nat}, (∀ (j : Nat) (f : Pc), l[j]? = some f → ∀ x, x ∈ flatB f.body → NmOk (procs.take (k + j)) x) → prC procs l k = prR procs l
 | [], _, _ => rfl
 | f :: r, k, h => by
  simp only [prC, prR]; have h0 : ∀ x, x ∈ flatB f.body → NmOk (procs.take k) x := h 0 f rfl; rw [all_take h0]
  have hr := prC_eq (procs := procs) (l := r) (k := k + 1) fun j g hj x hx => by
   have := h (j + 1) g (by simpa using hj) x hx
   rwa [show k + (j + 1) = k + 1 + j by omega] at this
  cases (flatB f.body).all (seeC procs) with
  | true => rw [Bool.true_and]; exact hr
  | false => rfl
theorem hasB_mem (l : List ByteArray) (x : ByteArray) : hasB l x = true ↔ x ∈ l := by
 induction l with
 | nil => simp [hasB]
 | cons y r ih =>
  simp only [hasB, List.mem_cons]
  cases hq : (y.toList == x.toList) with
  | true =>
   have := eqW_eq hq
   simp [this]
  | false =>
   simp only [ih]
   constructor
   ·exact .inr
   rintro (rfl | h)
   ·have : (x.toList == x.toList) = true := by simp
    rw [this] at hq; cases hq
   exact h
theorem dupR_eq (l : List ByteArray) : dupR l l 0 = dupB l := by
 have key : ∀ (e : List ByteArray) (d : List ByteArray), l = d ++ e → d.Nodup → dupR l e d.length = !decide l.Nodup := by
  intro e
  induction e with
  | nil =>
   intro d h hd; rw [List.append_nil] at h; subst h
   simp [dupR, hd]
  | cons x r ih =>
   intro d h hd; simp only [dupR]
   have ht : l.take d.length = d := by rw [h, List.take_left]
   rw [ht]
   cases hq : hasB d x with
   | true =>
    have hm := (hasB_mem d x).1 hq
    have : ¬ l.Nodup := by
     rw [h, List.nodup_append]; rintro ⟨_, _, q⟩; exact q x hm x (List.mem_cons_self) rfl
    simp [this]
   | false =>
    have hm : x ∉ d := fun q => by rw [(hasB_mem d x).2 q] at hq; cases hq
    have := ih (d ++ [x]) (by rw [h]; simp) (by
     rw [List.nodup_append]
     exact ⟨hd, by simp, fun a ha b hb => by rw [List.mem_singleton.1 hb]; exact fun e => hm (e ▸ ha)⟩)
    rw [List.length_append] at this; exact this
 rw [show (0 : Nat) = ([] : List ByteArray).length from rfl, key l [] rfl List.nodup_nil]
 unfold dupB
 congr 1
 have inj : ∀ l : List ByteArray, (l.map (·.data.toList)).Nodup ↔ l.Nodup := fun l => by
  constructor
  ·exact fun h => List.Pairwise.of_map _ (fun a b hab e => hab (congrArg (fun x : ByteArray => x.data.toList) e)) h
  intro h; exact List.Pairwise.map _ (fun a b hab e => hab (ByteArray.ext (Array.toList_inj.1 e))) h
 simp only [inj l]
section
variable (G : Glob)
theorem checkOf_no (vars : List ByteArray) (arrays : List Ar) (procs : List Pc) (main : List Sm) (s : ByteArray) (w0 : Spec Tryz.prog G 24 [.d (.agg (Pg.cs ⟨vars, arrays, procs, main⟩))] [] (.ret (.tup [.d (str s), .d (.s (.bool false))])) []) : Spec Tryz.prog G 35 [.d (.agg (Pg.cs ⟨vars, arrays, procs, main⟩))] [] (.ret (.d (num 3))) [] := by
 refine spec_of_awp2 TT_ok (N := 203) Tryz.func35 rfl (by rfl) (Nat.le_refl _) rfl ?_; refine rgs fun E K J O => ?_; refine O _ (aN [1] rfl rfl ?_); clear O J K E; refine rgs fun E K J O => ?_; show aCall _ _ _ _ _ _ _; refine aR [] rfl rfl rfl w0 rfl rfl rfl rfl ?_; refine O _ (aN [1, 4] rfl rfl ?_); clear O J K E; refine awp_seq ?_; refine rgs fun E K J O => ?_; refine O _ (aN [1, 22] rfl rfl ?_); clear O J K E; refine awp_cond rfl ?_; refine rgs fun E K J O => ?_; refine O _ (aN [2] rfl rfl ?_); clear O J K E; refine awp_ret ?_; exact ⟨_, [], _, [.d (num 3)], rfl, rfl, rfl, rfl, rfl, PWs.refl _, rfl⟩
theorem pcs_snoc2 (A : List ByteArray) (d : List Pc) (f : Pc) : strs (A ++ pcN (d ++ [f])) = strs (A ++ pcN d) ++ [[str f.name]] := by simp [strs, pcN]
set_option maxHeartbeats 2000000 in
def p35_27 : Plan := (.take 0 (.take 1 (.take 2 (.take 3 (.take 4 (.take 5 (.load 6 (.one 7 (.take 8 .done)))))))))
def p35_36 : Plan := (.take 0 (.load 1 (.take 2 (.take 3 (.take 4 (.load 5 (.take 6 (.take 7 (.take 8 (.load 9 (.take 10 (.take 11 (.one 12 (.take 13 .done))))))))))))))
def p35_46 : Plan := (.take 0 (.take 1 (.take 2 (.load 3 (.take 4 (.take 5 (.take 6 (.load 7 (.take 8 (.load 9 (.one 10 (.take 11 (.take 12 .done)))))))))))))
theorem checkOf_yes (vars : List ByteArray) (arrays : List Ar) (procs : List Pc) (main : List Sm) (hw0 : wtPg ⟨vars, arrays, procs, main⟩ ≤ 400000000) (s : ByteArray) (w1 : Spec Tryz.prog G 24 [.d (.agg (Pg.cs ⟨vars, arrays, procs, main⟩))] [] (.ret (.tup [.d (str s), .d (.s (.bool true))])) []) : Spec Tryz.prog G 35 [.d (.agg (Pg.cs ⟨vars, arrays, procs, main⟩))] [] (.ret (.d (num (codeR (checkF vars arrays procs main))))) [] := by
 have hw := hw0; simp only [wtPg] at hw; have hvl0 := wtV_len vars; have hal0 := wtA_len arrays; have hpl0 := wtP_len procs; have hpf0 := prmF_len procs
 have hbA : arrays.length ≤ 1073741824 := by omega
 have hbP : procs.length ≤ 1073741824 := by omega
 have han0 : (arN arrays).length = arrays.length := by simp [arN]
 have han : (arN arrays).length ≤ 1073741824 := by omega
 have hpn0 : (pcN procs).length = procs.length := by simp [pcN]
 obtain ⟨R, hR⟩ : ∃ R, checkF vars arrays procs main = R := ⟨_, rfl⟩; rw [hR]
 unfold checkF at hR
 rw [← dupR_eq] at hR; obtain ⟨bA, hA⟩ : ∃ b, arBad arrays = b := ⟨_, rfl⟩; obtain ⟨bL, hL⟩ : ∃ b, bLong vars arrays procs = b := ⟨_, rfl⟩; obtain ⟨bD, hD⟩ : ∃ b, dupR (allN2 vars arrays procs ++ pcN procs) (allN2 vars arrays procs ++ pcN procs) 0 = b := ⟨_, rfl⟩; obtain ⟨bN, hN⟩ : ∃ b, prN vars (arN arrays) procs procs 0 = b := ⟨_, rfl⟩; obtain ⟨bM, hM⟩ : ∃ b, (flatB main).all (seeN vars (arN arrays) procs) = b := ⟨_, rfl⟩; obtain ⟨bC, hCC0⟩ : ∃ b, prC procs procs 0 = b := ⟨_, rfl⟩; obtain ⟨bK, hKB⟩ : ∃ b, (flatB main).all (seeC procs) = b := ⟨_, rfl⟩; rw [hA, hL, hD, hN, hM, hCC0, hKB] at hR; have hL0 := hL; have hL : (decide (((strs ((vars ++ arN arrays) ++ prmF procs)).length : Int) > 12) || decide (((strs (pcN procs)).length : Int) > 6)) = bL := hL0; have hmn := stmtNames_spec G vars (arN arrays) procs (by omega) han (by omega) main (by omega); rw [hM] at hmn; have hNN := hN; refine spec_of_awp2 TT_ok (N := 203) Tryz.func35 rfl (by rfl) (Nat.le_refl _) rfl ?_; refine rgs fun E K J O => ?_; refine O _ (aN [1] rfl rfl ?_); clear O J K E; refine rgs fun E K J O => ?_; show aCall _ _ _ _ _ _ _; refine aR [] rfl rfl rfl w1 rfl rfl rfl rfl ?_; refine O _ (aN [1, 4] rfl rfl ?_); clear O J K E; refine awp_seq ?_; refine rgs fun E K J O => ?_; refine O _ (aN [1, 22] rfl rfl ?_); clear O J K E; refine awp_cond rfl ?_; refine awp_skip ?_; refine rgs fun E K J O => ?_; refine O _ (aN [1, 5] rfl rfl ?_); clear O J K E; refine awp_acc 5 9 1 rfl rfl rfl ?_; refine awp_norm [1, 5] rfl rfl ?_; refine rgs fun E K J O => ?_; refine And.intro (And.intro ((by simp only [strs_length, List.length_append, List.length_nil] at *; omega)) ((by simp only [strs_length, List.length_append, List.length_nil, maxLen] at *; omega))) ?_; refine O _ (aN [1, 5] rfl rfl ?_); clear O J K E; refine rgs fun E K J O => ?_; refine O _ (aN [1, 5, 6] rfl rfl ?_); clear O J K E; refine awp_acc 6 9 1 rfl rfl rfl ?_; refine awp_norm [1, 5, 6] rfl rfl ?_; refine awp_seq ?_; refine rgs fun E K J O => ?_; refine O _ (aN [1, 5, 6, 7] rfl rfl ?_); clear O J K E; refine awp_block ?_; refine awp_loop (fun k Y => ∃ (d1 e1 : List Ar) , k = e1.length ∧ arrays = d1 ++ e1 ∧ arBad e1 = bA ∧ Y = ⟨[(1, .box 0 0), (5, .acc 1), (6, .acc 2), (7, .d (num d1.length))], [.box 37 [.d (.sl 1 (strs vars)), .d (.sl 2 (ars arrays)), .d (.sl 7 (pcs procs)), .d (.sl 7 (sms main))], .acc 9 1 (strs vars), .acc 9 1 (strs (arN d1))]⟩) (arrays.length) (⟨[], arrays, rfl, rfl, hA, rfl⟩) ?_; clear hA; rintro k Y ⟨d1, e1, rfl, hl1, hA, rfl⟩
 have hll1 : (ars arrays).length = d1.length + e1.length := by rw [ars, List.length_map, hl1, List.length_append]
 have hdl1 : d1.length + e1.length ≤ 1073741824 := by rw [hl1, List.length_append] at hbA; exact hbA
 refine awp_seq ?_; refine rgs fun E K J O => ?_; refine O _ (aN [1, 5, 6, 7, 31] rfl rfl ?_); clear O J K E; refine awp_cond2 rfl (onB_intro (fun h1 => ?_) (fun h1 => ?_))
 ·have h1' := of_decide_eq_true h1
  rw [hll1] at h1'
  cases e1 with
  | nil => simp only [List.length_nil] at h1'; omega
  | cons x e1b =>
  obtain ⟨nm, sz⟩ := x; subst hl1; simp only [List.length_cons] at hdl1; simp only [arBad] at hA
  have hdn : (arN d1).length = d1.length := by simp [arN]
  refine awp_skip ?_; refine awp_seq ?_; refine awp_block ?_; refine rgs fun E K J O => ?_; refine And.intro (by omega) (Exists.intro _ (And.intro (ars_at rfl) ?_)); refine And.intro (And.intro ((by simp only [strs_length, List.length_append, chunk_length, List.length_cons, List.length_nil] at *; omega)) ((by simp only [strs_length, List.length_append, chunk_length, List.length_cons, List.length_nil, maxLen] at *; omega))) ?_; refine O _ (aN [1, 5, 6, 7] rfl rfl ?_); clear O J K E; refine rgs fun E K J O => ?_; refine And.intro (by omega) (Exists.intro _ (And.intro (ars_at rfl) ?_)); refine onB_intro (fun h2 => ?_) (fun h2 => ?_)
  ·simp only [h2, bn] at hA
   refine O _ (aN [1, 5, 6, 7, 58] rfl rfl ?_); clear O J K E; refine awp_cond rfl ?_; refine rgs fun E K J O => ?_; refine O _ (aN [2] rfl rfl ?_); clear O J K E; refine awp_ret ?_; subst hA; simp only [ckR] at hR; subst hR; exact ⟨_, [], _, [.d (num 2)], rfl, rfl, rfl, rfl, rfl, PWs.refl _, rfl⟩
  simp only [h2, bn] at hA; refine And.intro (by omega) (Exists.intro _ (And.intro (ars_at rfl) ?_)); refine O _ (aN [1, 5, 6, 7, 58] rfl rfl ?_); clear O J K E; refine awp_cond2 rfl (onB_intro (fun h3 => ?_) (fun h3 => ?_))
  ·simp only [h3] at hA
   refine rgs fun E K J O => ?_; refine O _ (aN [2] rfl rfl ?_); clear O J K E; refine awp_ret ?_; subst hA; simp only [ckR] at hR; subst hR; exact ⟨_, [], _, [.d (num 2)], rfl, rfl, rfl, rfl, rfl, PWs.refl _, rfl⟩
  simp only [h3] at hA; refine awp_skip ?_; refine rgn fun E K J O => ?_; refine O _ ?_; clear O J K E; exact ⟨_, Nat.lt_succ_self _, _, sub_pick (L := [0, 1, 2]) (slots := [1, 5, 6, 7]) rfl rfl rfl rfl rfl, d1 ++ [⟨nm, sz⟩], e1b, rfl, by simp, hA, by rw [← arN_snoc, List.length_append, wrapId (by omega) (by omega)]; rfl⟩
 have h1' := of_decide_eq_false h1; rw [hll1] at h1'; obtain rfl : e1 = [] := List.eq_nil_of_length_eq_zero (by omega); simp only [arBad] at hA; subst hA; rw [List.append_nil] at hl1; subst hl1; refine awp_exit ?_; refine awp_norm [1, 5, 6] rfl rfl ?_; refine rgs fun E K J O => ?_; refine And.intro (And.intro ((by simp only [strs_length, List.length_append, List.length_nil] at *; omega)) ((by simp only [strs_length, List.length_append, List.length_nil, maxLen] at *; omega))) ?_; refine O _ (aN [1, 5, 6] rfl rfl ?_); clear O J K E; refine awp_seq ?_; refine rgs fun E K J O => ?_; refine O _ (aN [1, 5, 6, 8] rfl rfl ?_); clear O J K E; refine awp_block ?_; refine awp_loop (fun k Y => ∃ (d2 e2 : List Pc), k = e2.length ∧ procs = d2 ++ e2 ∧ Y = ⟨[(1, .box 0 0), (5, .acc 1), (6, .acc 2), (8, .d (num d2.length))], [.box 37 [.d (.sl 1 (strs vars)), .d (.sl 2 (ars arrays)), .d (.sl 7 (pcs procs)), .d (.sl 7 (sms main))], .acc 9 1 (strs (((vars ++ arN arrays) ++ prmF d2))), .acc 9 1 (strs (arN arrays))]⟩) (procs.length) (⟨[], procs, rfl, rfl, by rw [show prmF [] = [] from rfl, List.append_nil, strs_app]; rfl⟩) ?_; rintro k Y ⟨d2, e2, rfl, hl2, rfl⟩
 have hll2 : (pcs procs).length = d2.length + e2.length := by rw [pcs_length, hl2, List.length_append]
 have hdl2 : d2.length + e2.length ≤ 1073741824 := by rw [hl2, List.length_append] at hbP; exact hbP
 refine awp_seq ?_; refine rgs fun E K J O => ?_; refine O _ (aN [1, 5, 6, 8, 66] rfl rfl ?_); clear O J K E; refine awp_cond2 rfl (onB_intro (fun h2 => ?_) (fun h2 => ?_))
 ·have h2' := of_decide_eq_true h2
  rw [hll2] at h2'
  cases e2 with
  | nil => simp only [List.length_nil] at h2'; omega
  | cons x e2b =>
  obtain ⟨nm, pr, bd, ⟨o1, n1, m1, l1⟩⟩ := x; subst hl2; simp only [List.length_cons] at hdl2; have hpl := prmF_len (d2 ++ ⟨nm, pr, bd, .mk o1 n1 m1 l1⟩ :: e2b); simp only [prmF_app, prmF, List.length_append] at hpl
  have hda : (arN arrays).length = arrays.length := by simp [arN]
  refine awp_skip ?_; refine awp_seq ?_; refine awp_block ?_; refine rgn fun E K J O => ?_; refine And.intro (by omega) (Exists.intro _ (And.intro (pcs_at rfl) ?_)); refine And.intro (And.intro ((by simp only [strs_length, pcs_length, List.length_append, List.length_cons, List.length_nil] at *; omega)) ((by simp only [strs_length, pcs_length, List.length_append, List.length_cons, List.length_nil, maxLen] at *; omega))) ?_; refine O _ (aN [1, 5, 6, 8] rfl rfl ?_); clear O J K E; refine rgn fun E K J O => ?_; refine O _ ?_; clear O J K E; exact ⟨_, Nat.lt_succ_self _, _, sub_pick (L := [0, 1, 2]) (slots := [1, 5, 6, 8]) rfl rfl rfl rfl rfl, d2 ++ [⟨nm, pr, bd, .mk o1 n1 m1 l1⟩], e2b, rfl, by simp, by rw [pm_snoc, List.length_append, wrapId (by omega) (by omega)]; rfl⟩
 have h2' := of_decide_eq_false h2; rw [hll2] at h2'; obtain rfl : e2 = [] := List.eq_nil_of_length_eq_zero (by omega); rw [List.append_nil] at hl2; subst hl2; refine awp_exit ?_; refine awp_norm [1, 5, 6] rfl rfl ?_; refine awp_seq ?_; refine rgs fun E K J O => ?_; refine onB_intro (fun h3 => ?_) (fun h3 => ?_)
 ·have hz80 : decide (((strs ((vars ++ arN arrays) ++ prmF procs)).length : Int) > 12) = true := h3
  simp only [hz80, bn] at hL; refine O _ (aN [1, 5, 6, 85] rfl rfl ?_); clear O J K E; refine awp_cond rfl ?_; refine rgs fun E K J O => ?_; refine O _ (aN [2] rfl rfl ?_); clear O J K E; refine awp_ret ?_; subst hL; simp only [ckR] at hR; subst hR; exact ⟨_, [], _, [.d (num 2)], rfl, rfl, rfl, rfl, rfl, PWs.refl _, rfl⟩
 have hz80 : decide (((strs ((vars ++ arN arrays) ++ prmF procs)).length : Int) > 12) = false := h3; simp only [hz80, bn] at hL; refine O _ (aN [1, 5, 6, 85] rfl rfl ?_); clear O J K E; refine awp_cond2 rfl (onB_intro (fun h4 => ?_) (fun h4 => ?_))
 ·have hz85 : decide (((strs (pcN procs)).length : Int) > 6) = true := (by rw [strs_length, hpn0, ← pcs_length]; exact h4)
  simp only [hz85] at hL; refine rgs fun E K J O => ?_; refine O _ (aN [2] rfl rfl ?_); clear O J K E; refine awp_ret ?_; subst hL; simp only [ckR] at hR; subst hR; exact ⟨_, [], _, [.d (num 2)], rfl, rfl, rfl, rfl, rfl, PWs.refl _, rfl⟩
 have hz85 : decide (((strs (pcN procs)).length : Int) > 6) = false := (by rw [strs_length, hpn0, ← pcs_length]; exact h4); simp only [hz85] at hL; subst hL; refine awp_skip ?_; refine awp_cut (fun Z => Z = ⟨[(1, .box 0 0), (5, .d (.sl 1 (strs (allN2 vars arrays procs ++ pcN procs)))), (6, .d (.sl 1 (strs (arN arrays))))], [.box 37 [.d (.sl 1 (strs vars)), .d (.sl 2 (ars arrays)), .d (.sl 7 (pcs procs)), .d (.sl 7 (sms main))]]⟩) ?_ ?_
 ·refine rgs fun E K J O => ?_; refine O _ (aN [1, 5, 6, 9] rfl rfl ?_); clear O J K E; refine awp_block ?_
  refine awp_loop (fun k Y => ∃ (d3 e3 : List Pc), k = e3.length ∧ procs = d3 ++ e3 ∧ Y = ⟨[(1, .box 0 0), (5, .acc 1), (6, .acc 2), (9, .d (num d3.length))], [.box 37 [.d (.sl 1 (strs vars)), .d (.sl 2 (ars arrays)), .d (.sl 7 (pcs procs)), .d (.sl 7 (sms main))], .acc 9 1 (strs (allN2 vars arrays procs ++ pcN d3)), .acc 9 1 (strs (arN arrays))]⟩) (procs.length) (⟨[], procs, rfl, rfl, by rw [show pcN [] = [] from rfl, List.append_nil]; rfl⟩) ?_; rintro k Y ⟨d3, e3, rfl, hl3, rfl⟩
  have hll3 : (pcs procs).length = d3.length + e3.length := by rw [pcs_length, hl3, List.length_append]
  have hdl3 : d3.length + e3.length ≤ 1073741824 := by rw [hl3, List.length_append] at hbP; exact hbP
  refine awp_seq ?_; refine rgs fun E K J O => ?_; refine O _ (aN [1, 5, 6, 9, 90] rfl rfl ?_); clear O J K E; refine awp_cond2 rfl (onB_intro (fun h5 => ?_) (fun h5 => ?_))
  ·have h5' := of_decide_eq_true h5
   rw [hll3] at h5'
   cases e3 with
   | nil => simp only [List.length_nil] at h5'; omega
   | cons x e3b =>
   obtain ⟨nm, pr, bd, ⟨o1, n1, m1, l1⟩⟩ := x; subst hl3; simp only [List.length_cons] at hdl3
   have hdn : (pcN d3).length = d3.length := by simp [pcN]
   have hq2 : (allN2 vars arrays (d3 ++ ⟨nm, pr, bd, .mk o1 n1 m1 l1⟩ :: e3b)).length = vars.length + (arN arrays).length + (prmF (d3 ++ ⟨nm, pr, bd, .mk o1 n1 m1 l1⟩ :: e3b)).length := by simp only [allN2, List.length_append]
   refine awp_skip ?_; refine awp_seq ?_; refine awp_block ?_; refine rgn fun E K J O => ?_; refine And.intro (by omega) (Exists.intro _ (And.intro (pcs_at rfl) ?_)); refine And.intro (And.intro ((by simp only [strs_length, pcs_length, List.length_append, chunk_length, List.length_cons, List.length_nil] at *; omega)) ((by simp only [strs_length, pcs_length, List.length_append, chunk_length, List.length_cons, List.length_nil, maxLen] at *; omega))) ?_; refine O _ (aN [1, 5, 6, 9] rfl rfl ?_); clear O J K E; refine rgn fun E K J O => ?_; refine O _ ?_; clear O J K E; exact ⟨_, Nat.lt_succ_self _, _, sub_pick (L := [0, 1, 2]) (slots := [1, 5, 6, 9]) rfl rfl rfl rfl rfl, d3 ++ [⟨nm, pr, bd, .mk o1 n1 m1 l1⟩], e3b, rfl, by simp, by rw [pcs_snoc2, List.length_append, wrapId (by omega) (by omega)]; rfl⟩
  have h5' := of_decide_eq_false h5; rw [hll3] at h5'; obtain rfl : e3 = [] := List.eq_nil_of_length_eq_zero (by omega); rw [List.append_nil] at hl3; subst hl3; refine awp_exit ?_; exact ⟨_, sub_pick (L := [0]) (slots := [1, 5, 6]) rfl rfl rfl rfl rfl, rfl⟩
 rintro Z rfl
 have hbQ : (allN2 vars arrays procs ++ pcN procs).length ≤ 1073741824 := by simp only [allN2, List.length_append]; omega
 revert hD hbQ
 generalize allN2 vars arrays procs ++ pcN procs = Q; intro hD hbQ; refine awp_seq ?_; refine rgs fun E K J O => ?_; refine O _ (aN [1, 5, 6, 10] rfl rfl ?_); clear O J K E; refine awp_block ?_; refine awp_loop (fun k Y => ∃ (d4 e4 : List ByteArray) , k = e4.length ∧ Q = d4 ++ e4 ∧ dupR Q e4 d4.length = bD ∧ Y = ⟨[(1, .box 0 0), (5, .d (.sl 1 (strs Q))), (6, .d (.sl 1 (strs (arN arrays)))), (10, .d (num d4.length))], [.box 37 [.d (.sl 1 (strs vars)), .d (.sl 2 (ars arrays)), .d (.sl 7 (pcs procs)), .d (.sl 7 (sms main))]]⟩) (Q.length) (⟨[], Q, rfl, rfl, hD, rfl⟩) ?_; clear hD; rintro k Y ⟨d4, e4, rfl, hl4, hD, rfl⟩
 have hll4 : (strs Q).length = d4.length + e4.length := by rw [strs_length, hl4, List.length_append]
 have hdl4 : d4.length + e4.length ≤ 1073741824 := by rw [hl4, List.length_append] at hbQ; exact hbQ
 refine awp_seq ?_; refine rgs fun E K J O => ?_; refine O _ (aN [1, 5, 6, 10, 105] rfl rfl ?_); clear O J K E; refine awp_cond2 rfl (onB_intro (fun h5 => ?_) (fun h5 => ?_))
 ·have h5' := of_decide_eq_true h5
  rw [hll4] at h5'
  cases e4 with
  | nil => simp only [List.length_nil] at h5'; omega
  | cons x e4b =>
  subst hl4; simp only [List.length_cons] at hdl4; simp only [dupR] at hD
  have htl : ((d4 ++ x :: e4b).take d4.length).length ≤ 1073741824 := by rw [List.length_take]; omega
  have hhs := hasN_spec G ((d4 ++ x :: e4b).take d4.length) x htl; rw [strs_take] at hhs; refine awp_skip ?_; refine awp_seq ?_; refine awp_block ?_; refine awp_seq ?_; refine (awp_draw TT_ok mixed p35_27 [7] (fun _ => true) (by kernel_rfl) fun E K J O => ?_); refine Exists.intro d4.length (And.intro rfl (And.intro (by rw [strs_length, List.length_append]; omega) ?_)); refine And.intro (by omega) (Exists.intro _ (And.intro (strs_at rfl) ?_))
  show aCall _ _ _ _ _ _ _
  refine aR [] rfl rfl rfl hhs rfl rfl rfl rfl ?_; refine O _ (aN [1, 5, 6, 10, 11] rfl rfl ?_); clear O J K E; refine rgs fun E K J O => ?_; refine O _ (aN [1, 5, 6, 10, 116] rfl rfl ?_); clear O J K E; refine awp_cond2 rfl (onB_intro (fun h6 => ?_) (fun h6 => ?_))
  ·simp only [h6] at hD
   refine rgs fun E K J O => ?_; refine O _ (aN [2] rfl rfl ?_); clear O J K E; refine awp_ret ?_; subst hD; simp only [ckR] at hR; subst hR; exact ⟨_, [], _, [.d (num 5)], rfl, rfl, rfl, rfl, rfl, PWs.refl _, rfl⟩
  simp only [h6] at hD; refine awp_skip ?_; refine rgn fun E K J O => ?_; refine O _ ?_; clear O J K E; exact ⟨_, Nat.lt_succ_self _, _, sub_norm (slots := [1, 5, 6, 10]) rfl rfl, d4 ++ [x], e4b, rfl, by simp, (by rw [List.length_append]; exact hD), by rw [List.length_append, wrapId (by omega) (by omega)]; rfl⟩
 have h5' := of_decide_eq_false h5; rw [hll4] at h5'; obtain rfl : e4 = [] := List.eq_nil_of_length_eq_zero (by omega); simp only [dupR] at hD; subst hD; refine awp_exit ?_; refine awp_norm [1, 6] rfl rfl ?_; refine awp_seq ?_; refine rgs fun E K J O => ?_; refine O _ (aN [1, 6, 12] rfl rfl ?_); clear O J K E; refine awp_block ?_; refine awp_loop (fun k Y => ∃ (d5 e5 : List Pc) , k = e5.length ∧ procs = d5 ++ e5 ∧ prN vars (arN arrays) procs e5 d5.length = bN ∧ Y = ⟨[(1, .box 0 0), (6, .d (.sl 1 (strs (arN arrays)))), (12, .d (num d5.length))], [.box 37 [.d (.sl 1 (strs vars)), .d (.sl 2 (ars arrays)), .d (.sl 7 (pcs procs)), .d (.sl 7 (sms main))]]⟩) (procs.length) (⟨[], procs, rfl, rfl, hN, rfl⟩) ?_; clear hN; rintro k Y ⟨d5, e5, rfl, hl5, hN, rfl⟩
 have hll5 : (pcs procs).length = d5.length + e5.length := by rw [pcs_length, hl5, List.length_append]
 have hdl5 : d5.length + e5.length ≤ 1073741824 := by rw [hl5, List.length_append] at hbP; exact hbP
 refine awp_seq ?_; refine rgs fun E K J O => ?_; refine O _ (aN [1, 6, 12, 121] rfl rfl ?_); clear O J K E; refine awp_cond2 rfl (onB_intro (fun h6 => ?_) (fun h6 => ?_))
 ·have h6' := of_decide_eq_true h6
  rw [hll5] at h6'
  cases e5 with
  | nil => simp only [List.length_nil] at h6'; omega
  | cons x e5b =>
  obtain ⟨nm, pr, bd, ⟨o1, n1, m1, l1⟩⟩ := x; subst hl5; simp only [List.length_cons] at hdl5; simp only [prN] at hN
  have hf : (d5 ++ ⟨nm, pr, bd, .mk o1 n1 m1 l1⟩ :: e5b)[d5.length]? = some ⟨nm, pr, bd, .mk o1 n1 m1 l1⟩ := by simp
  have hwx := wtP_app d5 (⟨nm, pr, bd, .mk o1 n1 m1 l1⟩ :: e5b); simp only [wtP] at hwx; have hpv := wtV_len pr
  have htk : ((d5 ++ ⟨nm, pr, bd, .mk o1 n1 m1 l1⟩ :: e5b).take d5.length).length ≤ 1073741824 := by rw [List.length_take]; omega
  have hvl : (vars ++ pr).length ≤ 1073741824 := by rw [List.length_append]; omega
  have hst := stmtNames_spec G (vars ++ pr) (arN arrays) ((d5 ++ ⟨nm, pr, bd, .mk o1 n1 m1 l1⟩ :: e5b).take d5.length) hvl han htk bd (by omega); have htm := rterm_all G (vars ++ pr) (arN arrays) hvl han _ (.mk o1 n1 m1 l1) (Nat.le_refl _) (by omega); rw [strs_app] at hst htm; rw [← pcs_take] at hst; refine awp_skip ?_; refine awp_seq ?_; refine awp_block ?_; refine rgs fun E K J O => ?_; refine O _ (aN [1, 6, 12, 13] rfl rfl ?_); clear O J K E; refine awp_acc 13 9 1 rfl rfl rfl ?_; refine awp_norm [1, 6, 12, 13] rfl rfl ?_; refine rgs fun E K J O => ?_; refine And.intro (And.intro ((by simp only [strs_length, pcs_length, List.length_append, List.length_cons, List.length_nil] at *; omega)) ((by simp only [strs_length, pcs_length, List.length_append, List.length_cons, List.length_nil, maxLen] at *; omega))) ?_; refine O _ (aN [1, 6, 12, 13] rfl rfl ?_); clear O J K E; refine rgs fun E K J O => ?_; refine And.intro (by omega) (Exists.intro _ (And.intro (pcs_at rfl) ?_)); refine And.intro (And.intro ((by simp only [strs_length, pcs_length, List.length_append, List.length_cons, List.length_nil] at *; omega)) ((by simp only [strs_length, pcs_length, List.length_append, List.length_cons, List.length_nil, maxLen] at *; omega))) ?_; refine O _ (aN [1, 6, 12, 13] rfl rfl ?_); clear O J K E; refine awp_seq ?_; refine (awp_draw TT_ok mixed p35_36 [12] (fun _ => true) (by kernel_rfl) fun E K J O => ?_); refine And.intro (by omega) (Exists.intro _ (And.intro (pcs_at rfl) ?_)); refine Exists.intro d5.length (And.intro rfl (And.intro (by rw [pcs_length, List.length_append]; omega) ?_))
  show aCall _ _ _ _ _ _ _
  refine aR [] rfl rfl rfl hst rfl rfl rfl rfl ?_; refine O _ (aN [1, 4, 6, 12, 13] rfl rfl ?_); clear O J K E; refine rgs fun E K J O => ?_; refine And.intro (by omega) (Exists.intro _ (And.intro (pcs_at rfl) ?_))
  show aCall _ _ _ _ _ _ _
  refine aR [] rfl rfl rfl htm rfl rfl rfl rfl ?_; refine O _ (aN [1, 4, 6, 12, 14] rfl rfl ?_); clear O J K E; refine rgs fun E K J O => ?_; refine onB_intro (fun h7 => ?_) (fun h7 => ?_)
  ·try simp only [Bool.not_eq_true'] at h7
   simp only [h7, bn] at hN; refine O _ (aN [1, 6, 12, 163] rfl rfl ?_); clear O J K E; refine awp_cond rfl ?_; refine rgs fun E K J O => ?_; refine O _ (aN [2] rfl rfl ?_); clear O J K E; refine awp_ret ?_; subst hN; simp only [ckR] at hR; subst hR; exact ⟨_, [], _, [.d (num 5)], rfl, rfl, rfl, rfl, rfl, PWs.refl _, rfl⟩
  try simp only [Bool.not_eq_false'] at h7
  simp only [h7, bn] at hN; refine O _ (aN [1, 6, 12, 163] rfl rfl ?_); clear O J K E; refine awp_cond2 rfl (onB_intro (fun h8 => ?_) (fun h8 => ?_))
  ·try simp only [Bool.not_eq_true'] at h8
   simp only [h8] at hN; refine rgs fun E K J O => ?_; refine O _ (aN [2] rfl rfl ?_); clear O J K E; refine awp_ret ?_; subst hN; simp only [ckR] at hR; subst hR; exact ⟨_, [], _, [.d (num 5)], rfl, rfl, rfl, rfl, rfl, PWs.refl _, rfl⟩
  try simp only [Bool.not_eq_false'] at h8
  simp only [h8] at hN; refine awp_skip ?_; refine rgn fun E K J O => ?_; refine O _ ?_; clear O J K E; exact ⟨_, Nat.lt_succ_self _, _, sub_pick (L := [0]) (slots := [1, 6, 12]) rfl rfl rfl rfl rfl, d5 ++ [⟨nm, pr, bd, .mk o1 n1 m1 l1⟩], e5b, rfl, by simp, by rw [List.length_append]; exact hN, by rw [List.length_append, wrapId (by omega) (by omega)]; rfl⟩
 have h6' := of_decide_eq_false h6; rw [hll5] at h6'; obtain rfl : e5 = [] := List.eq_nil_of_length_eq_zero (by omega); simp only [prN] at hN; subst hN; refine awp_exit ?_; refine awp_norm [1, 6] rfl rfl ?_; refine rgs fun E K J O => ?_; show aCall _ _ _ _ _ _ _; refine aR [] rfl rfl rfl hmn rfl rfl rfl rfl ?_; refine O _ (aN [1, 4] rfl rfl ?_); clear O J K E; refine awp_seq ?_; refine rgs fun E K J O => ?_; refine O _ (aN [1, 4, 173] rfl rfl ?_); clear O J K E; refine awp_cond2 rfl (onB_intro (fun h7 => ?_) (fun h7 => ?_))
 ·have hbM : bM = false := by simpa using h7
  subst hbM; refine rgs fun E K J O => ?_; refine O _ (aN [2] rfl rfl ?_); clear O J K E; refine awp_ret ?_; simp only [ckR] at hR; subst hR; exact ⟨_, [], _, [.d (num 5)], rfl, rfl, rfl, rfl, rfl, PWs.refl _, rfl⟩
 have hbM : bM = true := by simpa using h7
 subst hbM; refine awp_skip ?_; refine awp_seq ?_; refine rgs fun E K J O => ?_; refine O _ (aN [1, 4, 15] rfl rfl ?_); clear O J K E
 have hCC : prR procs procs = bC := by
  rw [← prC_eq (k := 0) (fun j f hj => nms_of (prN_at hNN j f hj))]; exact hCC0
 refine awp_block ?_; refine awp_loop (fun k Y => ∃ (d6 e6 : List Pc) (ok : Bool), k = e6.length ∧ procs = d6 ++ e6 ∧ (ok && prR procs e6) = bC ∧ Y = ⟨[(1, .box 0 0), (4, .d (.s (.bool ok))), (15, .d (num d6.length))], [.box 37 [.d (.sl 1 (strs vars)), .d (.sl 2 (ars arrays)), .d (.sl 7 (pcs procs)), .d (.sl 7 (sms main))]]⟩) (procs.length) (⟨[], procs, true, rfl, rfl, by rw [Bool.true_and]; exact hCC, rfl⟩) ?_; clear hCC; rintro k Y ⟨d6, e6, ok, rfl, hl6, hCC, rfl⟩
 have hll6 : (pcs procs).length = d6.length + e6.length := by rw [pcs_length, hl6, List.length_append]
 have hdl6 : d6.length + e6.length ≤ 1073741824 := by rw [hl6, List.length_append] at hbP; exact hbP
 refine awp_seq ?_; refine rgs fun E K J O => ?_; refine O _ (aN [1, 4, 15, 178] rfl rfl ?_); clear O J K E; refine awp_cond2 rfl (onB_intro (fun h8 => ?_) (fun h8 => ?_))
 ·have h8' := of_decide_eq_true h8
  rw [hll6] at h8'
  cases e6 with
  | nil => simp only [List.length_nil] at h8'; omega
  | cons x e6b =>
  obtain ⟨nm, pr, bd, ⟨o1, n1, m1, l1⟩⟩ := x; subst hl6; simp only [List.length_cons] at hdl6; simp only [prR] at hCC
  have hf : (d6 ++ ⟨nm, pr, bd, .mk o1 n1 m1 l1⟩ :: e6b)[d6.length]? = some ⟨nm, pr, bd, .mk o1 n1 m1 l1⟩ := by simp
  have hwx := wtP_app d6 (⟨nm, pr, bd, .mk o1 n1 m1 l1⟩ :: e6b); simp only [wtP] at hwx; have hnm := nms_of (prN_at hNN _ _ hf); rw [Nat.zero_add] at hnm; have hca := stmtCalls_spec G (d6 ++ ⟨nm, pr, bd, .mk o1 n1 m1 l1⟩ :: e6b) (by omega) bd (by omega) (fun x hx => nm_take (hnm x hx)); refine awp_skip ?_; refine awp_seq ?_; refine awp_block ?_; refine (awp_draw TT_ok mixed p35_46 [10] (fun _ => true) (by kernel_rfl) fun E K J O => ?_); refine onB_intro (fun h9 => ?_) (fun h9 => ?_)
  ·simp only [h9, bn] at hCC
   refine And.intro (by omega) (Exists.intro _ (And.intro (pcs_at rfl) ?_))
   show aCall _ _ _ _ _ _ _
   refine aR [] rfl rfl rfl hca rfl rfl rfl rfl ?_; refine O _ (aN [1, 4, 15] rfl rfl ?_); clear O J K E; refine rgn fun E K J O => ?_; refine O _ ?_; clear O J K E; exact ⟨_, Nat.lt_succ_self _, _, sub_norm (slots := [1, 4, 15]) rfl rfl, d6 ++ [⟨nm, pr, bd, .mk o1 n1 m1 l1⟩], e6b, _, rfl, by simp, hCC, by rw [List.length_append, wrapId (by omega) (by omega)]; rfl⟩
  simp only [h9, bn] at hCC; refine O _ (aN [1, 4, 15] rfl rfl ?_); clear O J K E; refine rgn fun E K J O => ?_; refine O _ ?_; clear O J K E; exact ⟨_, Nat.lt_succ_self _, _, sub_norm (slots := [1, 4, 15]) rfl rfl, d6 ++ [⟨nm, pr, bd, .mk o1 n1 m1 l1⟩], e6b, false, rfl, by simp, (by rw [Bool.false_and]; exact hCC), by rw [List.length_append, wrapId (by omega) (by omega)]; rfl⟩
 have h8' := of_decide_eq_false h8; rw [hll6] at h8'; obtain rfl : e6 = [] := List.eq_nil_of_length_eq_zero (by omega); simp only [prR] at hCC; simp only [Bool.and_true] at hCC; subst hCC; refine awp_exit ?_; refine awp_norm [1, 4] rfl rfl ?_; refine awp_seq ?_; refine rgs fun E K J O => ?_; refine onB_intro (fun h9 => ?_) (fun h9 => ?_)
 ·have hok : ok = false := by simpa using h9
  subst hok; refine O _ (aN [202] rfl rfl ?_); clear O J K E; refine awp_cond rfl ?_; refine rgs fun E K J O => ?_; refine O _ (aN [2] rfl rfl ?_); clear O J K E; refine awp_ret ?_; simp only [ckR] at hR; subst hR; exact ⟨_, [], _, [.d (num 3)], rfl, rfl, rfl, rfl, rfl, PWs.refl _, rfl⟩
 have hok : ok = true := by simpa using h9
 subst hok
 show aCall _ _ _ _ _ _ _
 have hmc := stmtCalls_spec G procs (by omega) main (by omega) (nms_of hM); rw [hKB] at hmc
 cases bK with
 | true =>
  refine aR [] rfl rfl rfl hmc rfl rfl rfl rfl ?_; refine O _ (aN [202] rfl rfl ?_); clear O J K E; refine awp_cond rfl ?_; refine awp_skip ?_; refine rgs fun E K J O => ?_; refine O _ (aN [2] rfl rfl ?_); clear O J K E; refine awp_ret ?_; simp only [ckR] at hR; subst hR; exact ⟨_, [], _, [.d (num 0)], rfl, rfl, rfl, rfl, rfl, PWs.refl _, rfl⟩
 | false =>
  refine aR [] rfl rfl rfl hmc rfl rfl rfl rfl ?_; refine O _ (aN [202] rfl rfl ?_); clear O J K E; refine awp_cond rfl ?_; refine rgs fun E K J O => ?_; refine O _ (aN [2] rfl rfl ?_); clear O J K E; refine awp_ret ?_; simp only [ckR] at hR; subst hR; exact ⟨_, [], _, [.d (num 3)], rfl, rfl, rfl, rfl, rfl, PWs.refl _, rfl⟩
end
end Go.Abs
end
section
namespace Go.Abs
open Go Go.Proofs
attribute [local irreducible] aCall AWp Sub Spec
section
variable {t : Nat → TypeId} {u : Nat → Value}
def p8_4 : Plan := (.load 0 (.load 3 (.one 1 (.one 2 (.one 4 (.one 5 (.take 6 .done)))))))
theorem says_gen (p : Pg) (hw : wtPg p ≤ 1000000000) (x : Data) (c : Int) (s34 : Spec Tryz.prog (GV t u) 34 [.d (.agg p.cs)] [] (.ret (.d x)) []) (s35 : Spec Tryz.prog (GV t u) 35 [.d (.agg p.cs)] [] (.ret (.d (num c))) []) (sc : Spec Tryz.prog (GV t u) 25 [.d x, .d (num c)] [] (.ret (.d (.s (.bool true)))) []) : Spec Tryz.prog (GV t u) 8 [.d (.agg p.cs)] [] (.ret (.d (.s (.bool true)))) [] := by
 refine spec_of_awp2 TT_ok (N := 13) Tryz.func8 rfl (by rfl) (Nat.le_refl _) rfl ?_; refine rgs fun E K J O => ?_; refine O _ (aN [1] rfl rfl ?_); clear O J K E; refine rgs fun E K J O => ?_; show aCall _ _ _ _ _ _ _; refine aR [] rfl rfl rfl (one_true t u) rfl rfl rfl rfl ?_; refine O _ (aN [1, 3] rfl rfl ?_); clear O J K E; refine awp_seq ?_; refine rgs fun E K J O => ?_; refine O _ (aN [1, 6] rfl rfl ?_); clear O J K E; refine awp_cond rfl ?_; refine awp_skip ?_; refine awp_seq ?_; refine (awp_draw TT_ok mixed p8_4 [4, 5] (fun _ => true) (by kernel_rfl) fun E K J O => ?_)
 show aCall _ _ _ _ _ _ _
 refine aR [] rfl rfl rfl (programOf_spec _ p hw) rfl rfl rfl rfl ?_
 show aCall _ _ _ _ _ _ _
 refine aR [] rfl rfl rfl s34 rfl rfl rfl rfl ?_
 show aCall _ _ _ _ _ _ _
 refine aR [] rfl rfl rfl s35 rfl rfl rfl rfl ?_
 show aCall _ _ _ _ _ _ _
 refine aR [] rfl rfl rfl sc rfl rfl rfl rfl ?_; refine O _ (aN [2] rfl rfl ?_); clear O J K E; refine awp_ret ?_; exact ⟨_, [], _, [.d (.s (.bool true))], rfl, rfl, rfl, rfl, rfl, PWs.refl _, rfl⟩
theorem ckR_cases (a b c d e f g : Bool) : ckR a b c d e f g = none ∨ ckR a b c d e f g = some 0 ∨ ckR a b c d e f g = some 1 ∨ ckR a b c d e f g = some 2 := by
 cases a <;> cases b <;> cases c <;> cases d <;> cases e <;> cases f <;> cases g <;> simp [ckR]
/-- The law, over pure values. -/
theorem checkSays_true (hE : ErrsOk t u) (n f : Nat) (p : Pg) (hok : okPg n f p = true) (hw : wtPg p ≤ 400000000) : Spec Tryz.prog (GV t u) 8 [.d (.agg p.cs)] [] (.ret (.d (.s (.bool true)))) [] := by
 obtain ⟨s, b, e, h1, h2⟩ := prog_law n f p hok hw; have sw : textF n f p ≠ .out → Spec Tryz.prog (GV t u) 22 [.d (.agg p.cs)] [] (.ret (outT t u (textF n f p))) [] := text_spec t u (itoa_ok t u) n f p; have sg := progG_spec (GV t u) n f p s _ e
 have hw2 : wtPg p ≤ 1000000000 := by omega
 obtain ⟨vars, arrays, procs, main⟩ := p
 cases b with
 | false =>
  rw [h2 rfl] at sw; have sc : Spec Tryz.prog (GV t u) 25 [.d (.s (.iface (t 1) (u 1))), .d (num 3)] [] (.ret (.d (.s (.bool true)))) [] := coded_err hE 1 (by decide) 3; exact says_gen _ hw2 _ _ (check_no vars arrays procs main (sw nofun)) (checkOf_no (GV t u) vars arrays procs main s sg) sc
 | true =>
  rw [h1 rfl] at sw; have a := check_yes (t := t) (u := u) vars arrays procs main hw s (sw nofun); have b := checkOf_yes (GV t u) vars arrays procs main hw s sg
  rcases ckR_cases (arBad arrays) (bLong vars arrays procs) (dupB (allN2 vars arrays procs ++ pcN procs)) (prN vars (arN arrays) procs procs 0) ((flatB main).all (seeN vars (arN arrays) procs)) (prC procs procs 0) ((flatB main).all (seeC procs)) with q | q | q | q
  ·have q : checkF vars arrays procs main = none := q
   rw [q] at a b; have sc : Spec Tryz.prog (GV t u) 25 [.d (.s .nilIface), .d (num 0)] [] (.ret (.d (.s (.bool true)))) [] := coded_nil 0; exact says_gen _ hw2 _ _ a b sc
  ·have q : checkF vars arrays procs main = some 0 := q
   rw [q] at a b; have sc : Spec Tryz.prog (GV t u) 25 [.d (.s (.iface (t 0) (u 0))), .d (num 2)] [] (.ret (.d (.s (.bool true)))) [] := coded_err hE 0 (by decide) 2; exact says_gen _ hw2 _ _ a b sc
  ·have q : checkF vars arrays procs main = some 1 := q
   rw [q] at a b; have sc : Spec Tryz.prog (GV t u) 25 [.d (.s (.iface (t 1) (u 1))), .d (num 3)] [] (.ret (.d (.s (.bool true)))) [] := coded_err hE 1 (by decide) 3; exact says_gen _ hw2 _ _ a b sc
  have q : checkF vars arrays procs main = some 2 := q; rw [q] at a b; have sc : Spec Tryz.prog (GV t u) 25 [.d (.s (.iface (t 2) (u 2))), .d (num 5)] [] (.ret (.d (.s (.bool true)))) [] := coded_err hE 2 (by decide) 5; exact says_gen _ hw2 _ _ a b sc
end
end Go.Abs
end
