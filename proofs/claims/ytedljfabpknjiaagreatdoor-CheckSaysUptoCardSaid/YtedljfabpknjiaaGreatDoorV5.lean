/- Texts of this proof, joined: AbsW, AbsX, AbsSA, AbsY, Shelf, AbsZ, AbsPA, AbsPB. -/
import Derived.Test.YtedljfabpknjiaaGreatDoorV4
import Derived.Shelf.Strings.Builder1
import Derived.Shelf.Strings.Builder2
import Derived.Shelf.Strings.OnBuilder
import Derived.Shelf.Small.Bits
import Derived.Shelf.Strings.BuilderF
import Derived.Shelf.Strings.BuilderK
import Derived.Shelf.Strconv.Atoi
import Derived.Shelf.Strconv.Itoa0
import Derived.Shelf.Strconv.Itoa1
import Derived.Shelf.LaysM
import Derived.Shelf.Strconv.Itoa2
import Derived.Shelf.Strconv.Itoa3
import Derived.Shelf.Strconv.AtoiErrFast
import Derived.Shelf.Strconv.ParseIntEmpty
import Derived.Shelf.Strconv.AtoiFail
import Derived.Shelf.Strconv.Clone
import Derived.Shelf.Strconv.SyntaxError
import Derived.Shelf.LaysC
import Derived.Shelf.Strconv.ToError
import Derived.Shelf.Strconv.Lower
import Derived.Shelf.Strconv.ParseUint10
import Derived.Shelf.Strconv.ParseUint10Empty
import Derived.Shelf.Strconv.ParseUint10Any
import Derived.Shelf.Strconv.ParseInt10
import Derived.Shelf.Strconv.AtoiLong
import Derived.Shelf.Strconv.AtoiInnerAll
import Derived.Shelf.Strconv.RangeError
import Derived.Shelf.Strconv.ToErrorRange
import Derived.Shelf.Strconv.AtoiAll
import Derived.Shelf.Strconv.ErrVarAll
import Derived.Shelf.Strings.Prefix
import Derived.Shelf.Bits.Mul64
import Derived.Shelf.Strings.Repeat
import Derived.Shelf.Slices.Reverse
import Derived.Ground.Names2Prog
import Derived.Shelf.Slices.Clone
import Derived.Shelf.Slices.CompactS
import Derived.Shelf.Slices.Cells
import Derived.Ground.SlgnProg
import Derived.Shelf.SlicesE.Clone
import Derived.Test.YtedljfabpknjiaaGreatDoorProg
section
namespace Go.Abs
open Go Go.Proofs
attribute [local irreducible] aCall AWp Sub Spec
def flt (i : Int) (t : TypeId) (u : Value) : Row := .box 261 [.d (.s (.int .i64 i)), .d (.s (.iface t u))]
theorem fail_spec (G : Glob) (ty : TypeId) (s w : ByteArray) (i : Int) (t : TypeId) (u : Value) :
  Spec Tryz.prog G 195 [.box 0 0, .d (.s (.iface t u))] [rdr ty s i w] (.pan (.ifc 128 (.box 1 0))) [rdr ty s i w, flt i t u] := by
 refine spec_of_awp TT_ok (N := 12) Tryz.func195 rfl (by rfl) (Nat.le_succ _) rfl ?_; refine rgn fun E K J O => ?_; refine J _ _ ?_; exact ⟨rfl, rfl⟩
/-- take: the word that must stand here. -/
theorem take_ok (G : Glob) (ty : TypeId) (s w : ByteArray) (i : Nat) (hsz : s.size < 4611686018427387904) (hi : i + w.size ≤ s.size) : Spec Tryz.prog G 136 [.box 0 0, .d (.s (.string w))] [rdr ty s i w] (.ret (.tup [])) [nextF ty s (i + w.size)] := by
 refine spec_of_awp TT_ok (N := 15) Tryz.func136 rfl (by rfl) (Nat.le_refl _) rfl ?_; refine awp_seq (awp_seq (rgn fun E K J O => ?_)); refine O _ (aN [0, 1, 9] rfl rfl ?_); clear O J K E; refine awp_cond rfl (onB_intro (fun h => ?_) (fun h => ?_))
 ·simp at h
 refine awp_skip ?_; refine rgn fun E K J O => ?_; show aCall _ _ _ _ _ _ _; refine aR [0] rfl rfl rfl (next_spec G ty s w i hsz hi) rfl rfl rfl rfl ?_; refine O _ ?_; exact ⟨_, rfl, rfl, rfl⟩
/-- The powers of ten. -/
def pow10V : List Int := [1, 10, 100, 1000, 10000, 100000, 1000000, 10000000, 100000000, 1000000000, 10000000000, 100000000000, 1000000000000, 10000000000000, 100000000000000, 1000000000000000, 10000000000000000, 100000000000000000, 1000000000000000000, 10000000000000000000]
/-- The package-level variables that are read: the errors of api (0 to 7), errors.errorType (8), two of strconv (11, 12), the powers of ten (9); how many blocks were there at first (1000); what the errors of api point to (100 to 107). -/
def GV (t : Nat → TypeId) (u : Nat → Value) : Glob := fun g => match Nat.ble g 8 || (Nat.beq g 11 || Nat.beq g 12) with
 | true => some (.iface (t g) (u g))
 | false => match Nat.beq g 9 with
  | true => some (.tuple (pow10V.map fun z => Value.int .u64 z).toArray)
  | false => match Nat.beq g 1000 with
   | true => some (u 1000)
   | false => match Nat.ble 100 g && Nat.ble g 107 with
    | true => some (.agg #[u (g - 100)])
    | false => none
theorem take_bad (t : Nat → TypeId) (u : Nat → Value) (ty : TypeId) (s w x : ByteArray) (i : Int) (hw : (w.toList == x.toList) = false) :
  Spec Tryz.prog (GV t u) 136 [.box 0 0, .d (.s (.string x))] [rdr ty s i w] (.pan (.ifc 128 (.box 1 0))) [rdr ty s i w, flt i (t 3) (u 3)] := by
 refine spec_of_awp TT_ok (N := 15) Tryz.func136 rfl (by rfl) (Nat.le_succ _) rfl ?_; refine awp_seq (awp_seq (rgn fun E K J O => ?_)); refine O _ (aN [0, 1, 9] rfl rfl ?_); clear O J K E; refine awp_cond rfl (onB_intro (fun h => ?_) (fun h => ?_))
 ·refine rgn fun E K J O => ?_; show aCall _ _ _ _ _ _ _
  refine aP [0] rfl rfl rfl (fail_spec (GV t u) ty s w i (t 3) (u 3)) rfl rfl rfl rfl ?_; refine J _ _ ?_; exact ⟨rfl, rfl⟩
 rw [hw] at h; cases h
theorem has_yes (G : Glob) (ty : TypeId) (s w : ByteArray) (i : Nat) (hsz : s.size < 4611686018427387904) (hi : i + w.size ≤ s.size) : Spec Tryz.prog G 134 [.box 0 0, .d (.s (.string w))] [rdr ty s i w] (.ret (.d (.s (.bool true)))) [nextF ty s (i + w.size)] := by
 refine spec_of_awp TT_ok (N := 13) Tryz.func134 rfl (by rfl) (Nat.le_refl _) rfl ?_; refine awp_seq (rgn fun E K J O => ?_); refine O _ ?_; clear O J K E; refine awp_seq (awp_seq (rgn fun E K J O => ?_)); refine O _ (aN [0, 1, 4, 10] rfl rfl ?_); clear O J K E; refine awp_cond rfl (onB_intro (fun h => ?_) (fun h => ?_))
 ·simp at h
 refine awp_skip ?_; refine awp_seq (rgn fun E K J O => ?_)
 show aCall _ _ _ _ _ _ _
 refine aR [0] rfl rfl rfl (next_spec G ty s w i hsz hi) rfl rfl rfl rfl ?_; refine O _ ?_; clear O J K E; refine awp_seq (rgn fun E K J O => ?_); refine O _ ?_; clear O J K E; refine awp_ret ?_; exact ⟨_, rfl, rfl, rfl⟩
theorem has_no (G : Glob) (ty : TypeId) (s w x : ByteArray) (i : Int) (hw : (w.toList == x.toList) = false) : Spec Tryz.prog G 134 [.box 0 0, .d (.s (.string x))] [rdr ty s i w] (.ret (.d (.s (.bool false)))) [rdr ty s i w] := by
 refine spec_of_awp TT_ok (N := 13) Tryz.func134 rfl (by rfl) (Nat.le_refl _) rfl ?_; refine awp_seq (rgn fun E K J O => ?_); refine O _ ?_; clear O J K E; refine awp_seq (awp_seq (rgn fun E K J O => ?_)); refine O _ (aN [0, 1, 4, 10] rfl rfl ?_); clear O J K E; refine awp_cond rfl (onB_intro (fun h => ?_) (fun h => ?_))
 ·refine awp_seq (rgn fun E K J O => ?_)
  refine O _ ?_; clear O J K E; refine awp_ret ?_; exact ⟨_, rfl, rfl, rfl⟩
 rw [hw] at h; cases h
end Go.Abs
end
section
namespace Go.Abs
open Go Go.Proofs
attribute [local irreducible] aCall AWp Sub Spec
def isRelF (s : ByteArray) : Bool := (s.toList == (⟨#[60]⟩ : ByteArray).toList) || (s.toList == (⟨#[60, 61]⟩ : ByteArray).toList) || (s.toList == (⟨#[61, 61]⟩ : ByteArray).toList) || (s.toList == (⟨#[33, 61]⟩ : ByteArray).toList) || (s.toList == (⟨#[62]⟩ : ByteArray).toList) || (s.toList == (⟨#[62, 61]⟩ : ByteArray).toList)
theorem isRel_spec (G : Glob) (s : ByteArray) : Spec Tryz.prog G 260 [.d (.s (.string s))] [] (.ret (.d (.s (.bool (isRelF s))))) [] := by
 refine spec_of_awp TT_ok (N := 11) Tryz.func260 rfl (by rfl) (Nat.le_refl _) rfl ?_; refine awp_seq (rgn fun E K J O => ?_); refine O _ ?_; clear O J K E; refine awp_seq (awp_seq (rgn fun E K J O => ?_)); refine O _ (aN [2, 3] rfl rfl ?_); clear O J K E; refine awp_block (awp_cut (fun Z => Z = ⟨[(2, .d (.s (.bool false))), (4, .d (.s (.bool (isRelF s))))], []⟩) ?_ ?_)
 ·refine awp_seq (rgn fun E K J O => ?_)
  refine O _ (aN [2, 3, 4] rfl rfl ?_); clear O J K E; refine awp_cond rfl (onB_intro (fun h0 => ?_) (fun h0 => ?_))
  ·refine awp_skip ?_
   refine ⟨_, sub_norm (slots := [2, 4]) rfl rfl, ?_⟩; rw [h0, show isRelF s = true from by simp only [isRelF, h0, Bool.true_or]]
   rfl
  refine awp_seq (rgn fun E K J O => ?_); refine O _ (aN [2, 3, 4] rfl rfl ?_); clear O J K E; refine awp_cond rfl (onB_intro (fun h1 => ?_) (fun h1 => ?_))
  ·refine awp_skip ?_
   refine ⟨_, sub_norm (slots := [2, 4]) rfl rfl, ?_⟩; rw [h1, show isRelF s = true from by simp only [isRelF, h1, Bool.true_or, Bool.or_true]]
   rfl
  refine awp_seq (rgn fun E K J O => ?_); refine O _ (aN [2, 3, 4] rfl rfl ?_); clear O J K E; refine awp_cond rfl (onB_intro (fun h2 => ?_) (fun h2 => ?_))
  ·refine awp_skip ?_
   refine ⟨_, sub_norm (slots := [2, 4]) rfl rfl, ?_⟩; rw [h2, show isRelF s = true from by simp only [isRelF, h2, Bool.true_or, Bool.or_true]]
   rfl
  refine awp_seq (rgn fun E K J O => ?_); refine O _ (aN [2, 3, 4] rfl rfl ?_); clear O J K E; refine awp_cond rfl (onB_intro (fun h3 => ?_) (fun h3 => ?_))
  ·refine awp_skip ?_
   refine ⟨_, sub_norm (slots := [2, 4]) rfl rfl, ?_⟩; rw [h3, show isRelF s = true from by simp only [isRelF, h3, Bool.true_or, Bool.or_true]]
   rfl
  refine awp_seq (rgn fun E K J O => ?_); refine O _ (aN [2, 3, 4] rfl rfl ?_); clear O J K E; refine awp_cond rfl (onB_intro (fun h4 => ?_) (fun h4 => ?_))
  ·refine awp_skip ?_
   refine ⟨_, sub_norm (slots := [2, 4]) rfl rfl, ?_⟩; rw [h4, show isRelF s = true from by simp only [isRelF, h4, Bool.true_or, Bool.or_true]]
   rfl
  refine rgn fun E K J O => ?_; refine O _ ?_; clear O J K E; refine ⟨_, sub_norm (slots := [2, 4]) rfl rfl, ?_⟩; rw [show isRelF s = (s.toList == (⟨#[62, 61]⟩ : ByteArray).toList) from by simp only [isRelF, h0, h1, h2, h3, h4, Bool.false_or]]
  rfl
 rintro Z rfl; refine awp_cond rfl (onB_intro (fun h => ?_) (fun h => ?_))
 ·refine awp_seq (rgn fun E K J O => ?_)
  refine O _ ?_; clear O J K E; refine awp_ret ?_; exact ⟨_, rfl, by rw [h]; rfl, rfl⟩
 refine awp_skip ?_; refine awp_seq (rgn fun E K J O => ?_); refine O _ ?_; clear O J K E; refine awp_ret ?_; exact ⟨_, rfl, by rw [h]; rfl, rfl⟩
end Go.Abs
end
section
namespace Go.Abs
open Go

mutual
inductive DW : Data → Data → Prop
 | refl (d : Data) : DW d d
 | nil (k : Nat) : DW (.s (.slice none 0 0)) (.sl k [])
 | agg {cs ds : List Data} : DWs cs ds → DW (.agg cs) (.agg ds)
inductive DWs : List Data → List Data → Prop
 | nil : DWs [] []
 | cons {c d : Data} {cs ds : List Data} : DW c d → DWs cs ds → DWs (c :: cs) (d :: ds)
end
inductive PW : PV → PV → Prop
 | refl (p : PV) : PW p p
 | d {x y : Data} : DW x y → PW (.d x) (.d y)
inductive PWs : List PV → List PV → Prop
 | nil : PWs [] []
 | cons {c d : PV} {cs ds : List PV} : PW c d → PWs cs ds → PWs (c :: cs) (d :: ds)
theorem PWs.refl : ∀ l : List PV, PWs l l
 | [] => .nil
 | _ :: r => .cons (.refl _) (PWs.refl r)
theorem DWs.refl : ∀ l : List Data, DWs l l
 | [] => .nil
 | _ :: r => .cons (.refl _) (DWs.refl r)

section
variable {H : Nat → Option Value} {lim : Nat → Nat} {w : World}
mutual
theorem DW.sound : ∀ {x y : Data} {v : Value}, DW x y → VD lim w x v → VD lim w y v
 | _, _, _, .refl _, hv => hv
 | _, _, v, .nil k, hv => by
  simp only [VD] at hv
  subst hv
  simp only [VD]
  exact ⟨none, 0, 0, rfl, rfl, Nat.le_refl _, by simp [maxLen], fun q => absurd rfl q⟩
 | _, _, v, .agg h, hv => by
  simp only [VD] at hv ⊢
  obtain ⟨vs, rfl, hc⟩ := hv
  exact ⟨vs, rfl, DWs.sound h hc⟩
theorem DWs.sound : ∀ {x y : List Data} {v : List Value}, DWs x y → VDs lim w x v → VDs lim w y v
 | _, _, _, .nil, hv => hv
 | _, _, v, .cons h k, hv => by
  simp only [VDs] at hv ⊢
  obtain ⟨u, us, rfl, h1, h2⟩ := hv
  exact ⟨u, us, rfl, DW.sound h h1, DWs.sound k h2⟩
end
theorem PW.sound {p q : PV} {v : Value} (h : PW p q) (hv : V H lim w p v) : V H lim w q v := by
 cases h with
 | refl => exact hv
 | d h => simp only [V] at hv ⊢; exact h.sound hv
theorem PWs.sound : ∀ {x y : List PV} {v : List Value}, PWs x y → Vs H lim w x v → Vs H lim w y v
 | _, _, _, .nil, hv => hv
 | _, _, v, .cons h k, hv => by
  simp only [Vs] at hv ⊢
  obtain ⟨u, us, rfl, h1, h2⟩ := hv
  exact ⟨u, us, rfl, h.sound h1, PWs.sound k h2⟩
end

/-- Where a body ends: its results and its panic, told over the rows of L alone. -/
def RetP (T : Tab) (fn : Func) (B : Nat) (out : Out) (rows' : List Row) : AExit → St → Prop := fun e X => match e with
 | .normal => ∃ ps L ps' ps'', aResults T X fn.results.toList = some ps ∧ L.take B = List.range B ∧ nodupB L = true ∧ PV.subs (sIn L X.rows) ps = some ps' ∧ pickRows (sIn L X.rows) X.rows L = some rows' ∧ PWs ps' ps'' ∧ out = .ret (resOf ps'')
 | .ret => ∃ ps L ps' ps'', aResults T X fn.results.toList = some ps ∧ L.take B = List.range B ∧ nodupB L = true ∧ PV.subs (sIn L X.rows) ps = some ps' ∧ pickRows (sIn L X.rows) X.rows L = some rows' ∧ PWs ps' ps'' ∧ out = .ret (resOf ps'')
 | .pan p => ∃ L p', L.take B = List.range B ∧ nodupB L = true ∧ PV.sub (sIn L X.rows) p = some p' ∧ pickRows (sIn L X.rows) X.rows L = some rows' ∧ out = .pan p'
 | .exit _ => False

section
variable {P : Program} {T : Tab} {G : Glob} {D : List Deferred} {N B : Nat} {X X' : St} {H H' : Nat → Option Value} {lim lim' : Nat → Nat} {a : Act} {w w' : World} {L : List Nat}

theorem pick_lk (h0 : L.take B = List.range B) : Lk B H lim w (HL L H) lim w := by
 refine Sub.lk (fun id hid => ?_) (fun b ⟨j, hb⟩ => ?_)
 ·have e : (L.take B)[id]? = some id := by rw [h0]; simp [hid]
  rw [List.getElem?_take, if_pos hid] at e
  simp [HL, e]
 obtain ⟨id, _, h⟩ := bl_HL hb
 exact ⟨id, h⟩

/-- What a function's results are, as values. -/
theorem results_run (hT : TabOk P T) (hR : Rep D G N H lim X a w) {fn : Func} {ps : List PV} (h : aResults T X fn.results.toList = some ps) :
  ∃ us : List Value, (results fn a.tmps).run P w = .ok (if h : us.length = 1 then us[0] else .tuple us.toArray) w ∧ Vs H lim w ps us := by
 obtain ⟨us, r1, r2⟩ := aResults_sound (P := P) hT hR _ _ h
 refine ⟨us, ?_, r2⟩
 unfold results
 have : ∀ (g : ResultVar → Sem Value), (fn.results.mapM g).run P w = ((fn.results.toList.mapM g).run P w).andThen fun l w => .ok l.toArray w := by
  intro g
  rw [← Array.toArray_toList (xs := fn.results), List.mapM_toArray]
  simp only [List.toList_toArray]
  show Sem.run P (List.mapM g fn.results.toList >>= fun x => pure x.toArray) w = _
  rw [Sem.run_bind]
  rfl
 rw [Sem.run_bind, this]
 erw [r1]
 simp [Result.andThen]
theorem resOf_V {ps : List PV} {us : List Value} (h : Vs H lim w ps us) : V H lim w (resOf ps) (if h : us.length = 1 then us[0] else .tuple us.toArray) := by
 have hl := Vs_length h
 cases ps with
 | nil =>
  simp only [Vs] at h
  subst h
  simp only [resOf, V]
  exact ⟨[], rfl, by simp only [Vs]⟩
 | cons p ps =>
  cases ps with
  | nil =>
   simp only [Vs] at h
   obtain ⟨u, us', rfl, h1, rfl⟩ := h
   simpa [resOf] using h1
  | cons q ps =>
   have hne : ¬ us.length = 1 := by simp at hl; omega
   rw [dif_neg hne]
   simp only [resOf, V]
   exact ⟨us, rfl, h⟩

/-- A CONTRACT from a body, its own boxes forgotten. -/
theorem spec_of_awp2 (hT : TabOk P T) {f : FuncId} {fn : Func} {c : Code} {args : List PV} {rows rows' : List Row} {out : Out} (hf : P.funcs[f]? = some fn) (hb : fn.body = some c) (hname : (fn.name == "runtime.NumGoroutine") = false)
  (hlen : rows.length ≤ rows'.length) (hN : N = args.length + (fn.ntmps - args.length))
  (h : AWp [] P G N rows.length c (RetP T fn rows.length out rows') ⟨argEnv 0 args, rows⟩) : Spec P G f args rows out rows' := by
 refine ⟨fun av0 w => ?_, hlen, fun H lim w vs hrows hglob hvs => ?_⟩
 ·have hne : ¬ fn.name = "runtime.NumGoroutine" := by simpa using hname
  simp [callFunc, hf, hne, hb, program, Sem.run]
 have hvl : vs.length = args.length := Vs_length hvs
 refine calls_of_wp hf hb (wp_mono (h H lim _ w ⟨fun j p hj => ?_, hrows, hglob, rfl, ?_⟩) ?_)
 ·obtain ⟨_, hj⟩ := argEnv_look hj
  obtain ⟨v, h1, h2⟩ := Vs_get hvs hj
  simp only [Nat.sub_zero] at h1
  have hlt := (List.getElem?_eq_some_iff.1 h1).1
  refine ⟨by omega, ?_⟩
  have : ((vs.toArray ++ Array.replicate (fn.ntmps - vs.toArray.size) undef).getD j undef) = v := by
   rw [Array.getD_eq_getD_getElem?, Array.getElem?_append_left (by simpa using hlt)]
   simp [h1]
  rw [this]
  exact h2
 ·simp [hN, hvl]
 intro e a' w' hp
 have hptr : ∀ {H' : Nat → Option Value} {lim' : Nat → Nat}, Lk rows.length H lim w H' lim' w' → ∀ id v, stay v = true → H id = some v → H' id = H id := fun lk id q hst hq => by
  rcases Nat.lt_or_ge id rows.length with hlt | hlt
  ·exact lk.ptr id q hlt hst hq
  rw [hrows.dom id hlt] at hq; cases hq
 have key : ∀ X' H' lim', Rep [] G N H' lim' X' a' w' → Lk rows.length H lim w H' lim' w' → (∃ ps L ps' ps'', aResults T X' fn.results.toList = some ps ∧ L.take rows.length = List.range rows.length ∧ nodupB L = true ∧ PV.subs (sIn L X'.rows) ps = some ps' ∧ pickRows (sIn L X'.rows) X'.rows L = some rows' ∧ PWs ps' ps'' ∧ out = .ret (resOf ps'')) →
   a'.defers = [] ∧ ∃ v, (results fn a'.tmps).run P w' = .ok v w' ∧ (∃ (H' : Nat → Option Value) (lim' : Nat → Nat), RowsOk H' lim' w' rows' ∧ Fr (Bl H) lim w lim' w' ∧ (∀ id v, stay v = true → H id = some v → H' id = H id) ∧ (∀ b, Bl H' b → Bl H b ∨ w.heap.size ≤ b) ∧
    OutOk H' lim' w' out (.returned v)) := by
  intro X' H' lim' hR lk ⟨ps, L, ps', ps'', q1, q2, q3, q4, q5, q6, q7⟩
  refine ⟨hR.defers, ?_⟩
  obtain ⟨us, r1, r2⟩ := results_run (P := P) hT hR q1
  have lk2 := lk.trans (pick_lk (H := H') (lim := lim') (w := w') q2)
  have r3 := Vs.sub (Fr.refl (fun _ => False) lim' w') (sIn_ok hR.rows).1 (sIn_ok hR.rows).2 _ _ _ q4 r2
  refine ⟨_, r1, HL L H', lim', rows_pick hR.rows q3 q5, lk2.fr, hptr lk2, lk2.blocks, ?_⟩
  subst q7
  exact ⟨_, rfl, resOf_V (q6.sound r3)⟩
 cases e <;> simp only [Post, bodyPost] at hp ⊢
 ·obtain ⟨X', H', lim', h1, h2, h3⟩ := hp
  exact key X' H' lim' h1 h2 h3
 ·obtain ⟨X', H', lim', h1, h2, h3⟩ := hp
  exact h3
 ·obtain ⟨X', H', lim', h1, h2, h3⟩ := hp
  exact key X' H' lim' h1 h2 h3
 obtain ⟨X', H', lim', v, p, rfl, h2, h3, h4, h5, L, p', q1, q2, q3, q4, q5⟩ := hp
 have lk2 := h5.trans (pick_lk (H := H') (lim := lim') (w := w') q1)
 refine ⟨h4, HL L H', lim', rows_pick (X := X') h2 q2 q4, lk2.fr, hptr lk2, lk2.blocks, ?_⟩
 subst q5
 exact ⟨v, rfl, V.sub (Fr.refl (fun _ => False) lim' w') (sIn_ok h2).1 (sIn_ok h2).2 _ _ _ q3 h3⟩

/-- A condition on a slot: behind it the slot is told. -/
theorem awp_cond2 {t : Nat} {x y : Code} {b : Bool} {Q : AExit → St → Prop} (hc : look X.env t = some (.d (.s (.bool b)))) (h : onB b (AWp D P G N B x Q ⟨(t, .d (.s (.bool true))) :: X.env, X.rows⟩) (AWp D P G N B y Q ⟨(t, .d (.s (.bool false))) :: X.env, X.rows⟩)) : AWp D P G N B (.cond (.tmp t) x y) Q X := by
 intro H lim a w hR
 have hv := hR.env t _ hc
 have hv2 := hv.2
 simp only [V, VD] at hv2
 exact wp_cond_split (show a.eval (.tmp t) = .bool b from hv2) (fun e => (onB_elim h).1 e H lim a w (rep_same (d := t) hR hv.1 (by simp only [V, VD]; rw [hv2, e]))) (fun e => (onB_elim h).2 e H lim a w (rep_same (d := t) hR hv.1 (by simp only [V, VD]; rw [hv2, e])))

/-- A nil slice, told as an owned row. -/
theorem sub_acc {t : Nat} (e : TypeId) (k : Nat) (ht : look X.env t = some (.d (.s (.slice none 0 0)))) (hk : Nat.ble 1 k = true) (_hB : B ≤ X.rows.length) : Sub D G N B X ⟨(t, .acc X.rows.length) :: X.env, X.rows ++ [.acc e k []]⟩ := by
 intro H lim a w hR
 have hn : H X.rows.length = none := hR.rows.dom _ (Nat.le_refl _)
 have hnx := nx_push (D := D) (r := .acc e k []) (u := .slice none 0 0) hR (Fr.refl _ lim w) (by simp [blk]) ⟨.slice none 0 0, [], upd_same _ _ _, ⟨by simp, .inl ⟨rfl, rfl⟩⟩, by simp only [List.flatten_nil, VDs], (fun _ q => absurd q List.not_mem_nil), Nat.le_of_ble_eq_true hk, fun b q => (by simp [blk] at q)⟩
 have hv := (hR.env t _ ht)
 simp only [V, VD] at hv
 refine ⟨_, lim, rep_same (X := ⟨X.env, X.rows ++ [.acc e k []]⟩) hnx.rep hv.1 (p := .acc X.rows.length) (d := t) ?_, ⟨hnx.fr.weaken fun b ⟨_, q, _⟩ => q.elim, fun id v _ hst h => hnx.ptr id v hst h, hnx.blocks⟩⟩
 simp only [V]
 rw [upd_same, hv.2]
theorem awp_acc (t : Nat) (e : TypeId) (k : Nat) {c : Code} {Q : AExit → St → Prop} (ht : look X.env t = some (.d (.s (.slice none 0 0)))) (hk : Nat.ble 1 k = true) (hB : Nat.ble B X.rows.length = true)
  (h : AWp D P G N B c Q ⟨(t, .acc X.rows.length) :: X.env, X.rows ++ [.acc e k []]⟩) : AWp D P G N B c Q X := awp_sub (sub_acc e k ht hk (Nat.le_of_ble_eq_true hB)) h
end

section
variable {P : Program} {T : Tab} {G : Glob} {D : List Deferred} {N B : Nat} {X X' : St} {H H' : Nat → Option Value} {lim lim' : Nat → Nat} {a : Act} {w w' : World} {L : List Nat}
theorem Vs_set {q : PV} {v : Value} : ∀ {ps : List PV} {vs : List Value} {i : Nat}, Vs H lim w ps vs → vs[i]? = some v → V H lim w q v → Vs H lim w (ps.set i q) vs
 | [], vs, i, h, hv, hq => by simpa using h
 | p :: ps, vs, i, h, hv, hq => by
  simp only [Vs] at h
  obtain ⟨u, us, rfl, h1, h2⟩ := h
  cases i with
  | zero =>
   simp only [List.getElem?_cons_zero, Option.some.injEq] at hv
   subst hv
   simp only [List.set_cons_zero, Vs]
   exact ⟨_, us, rfl, hq, h2⟩
  | succ i =>
   simp only [List.getElem?_cons_succ] at hv
   simp only [List.set_cons_succ, Vs]
   exact ⟨u, us, rfl, h1, Vs_set h2 hv hq⟩
/-- A nil slice in a box's cell, told as an owned row. -/
theorem sub_accCell {id off : Nat} {ty : TypeId} {cells : List PV} (e : TypeId) (k : Nat) (hr : X.rows[id]? = some (.box ty cells)) (hc : cells[off]? = some (.d (.s (.slice none 0 0)))) (hk : Nat.ble 1 k = true) (_hB : B ≤ X.rows.length) :
  Sub D G N B X ⟨X.env, X.rows.set id (.box ty (cells.set off (.acc X.rows.length))) ++ [.acc e k []]⟩ := by
 intro H lim a w hR
 have hn : H X.rows.length = none := hR.rows.dom _ (Nat.le_refl _)
 have hnx := nx_push (D := D) (r := .acc e k []) (u := .slice none 0 0) hR (Fr.refl _ lim w) (by simp [blk]) ⟨.slice none 0 0, [], upd_same _ _ _, ⟨by simp, .inl ⟨rfl, rfl⟩⟩, by simp only [List.flatten_nil, VDs], (fun _ q => absurd q List.not_mem_nil), Nat.le_of_ble_eq_true hk, fun b q => (by simp [blk] at q)⟩
 have hid : id < X.rows.length := (List.getElem?_eq_some_iff.1 hr).1
 have hrep := hnx.rep
 refine ⟨_, lim, ⟨hrep.env, ⟨fun j q hj => ?_, hrep.rows.apart, fun j hj => hrep.rows.dom j (by simpa using hj)⟩, hrep.glob, hrep.defers, hrep.size⟩, ⟨hnx.fr.weaken fun b ⟨_, q, _⟩ => q.elim, fun id v _ hst h => hnx.ptr id v hst h, hnx.blocks⟩⟩
 by_cases hjn : j = id
 ·subst hjn
  rw [List.getElem?_append_left (by simpa using hid), List.getElem?_set_self hid] at hj
  simp only [Option.some.injEq] at hj
  subst hj
  have := hrep.rows.row j (.box ty cells) (by simp only; rw [List.getElem?_append_left hid]; exact hr)
  obtain ⟨b, cs, h1, h2, h3, h4⟩ := this
  obtain ⟨v, hv1, hv2⟩ := Vs_get h3 hc
  simp only [V, VD] at hv2
  exact ⟨b, cs, h1, h2, Vs_set h3 hv1 (by simp only [V]; rw [upd_same, hv2]), h4⟩
 refine hrep.rows.row j q ?_
 simp only at hj ⊢
 rcases Nat.lt_or_ge j X.rows.length with hlt | hlt
 ·rw [List.getElem?_append_left (by simpa using hlt), List.getElem?_set_ne (Ne.symm hjn)] at hj
  rw [List.getElem?_append_left hlt]; exact hj
 rw [List.getElem?_append_right (by simpa using hlt)] at hj
 rw [List.getElem?_append_right hlt]
 simpa using hj
theorem awp_accCell (id off : Nat) (e : TypeId) (k : Nat) {ty : TypeId} {cells : List PV} {c : Code} {Q : AExit → St → Prop} (hr : X.rows[id]? = some (.box ty cells)) (hc : cells[off]? = some (.d (.s (.slice none 0 0)))) (hk : Nat.ble 1 k = true) (hB : Nat.ble B X.rows.length = true)
  (h : AWp D P G N B c Q ⟨X.env, X.rows.set id (.box ty (cells.set off (.acc X.rows.length))) ++ [.acc e k []]⟩) : AWp D P G N B c Q X := awp_sub (sub_accCell e k hr hc hk (Nat.le_of_ble_eq_true hB)) h
end
/-- Contracts told less sharply. -/
theorem Spec.weak {P : Program} {G : Glob} {f : FuncId} {args args' : List PV} {rows rows' : List Row} {p p' : PV} (h : Spec P G f args rows (.ret p) rows') (ha : PWs args' args) (hp : PW p p') : Spec P G f args' rows (.ret p') rows' := by
 refine ⟨h.1, h.2.1, fun H lim w vs h1 h2 h3 => Calls.mono (h.2.2 H lim w vs h1 h2 (ha.sound h3)) ?_⟩
 intro e w' ⟨H', lim', q1, q2, q3, q4, v, q5, q6⟩
 exact ⟨H', lim', q1, q2, q3, q4, v, q5, hp.sound q6⟩
end Go.Abs
end
section
namespace Go.Abs
open Go Go.Proofs
attribute [local irreducible] aCall AWp Sub Spec
def str (s : ByteArray) : Data := .s (.string s)
def num (n : Int) : Data := .s (.int .i64 n)
def strs (l : List ByteArray) : List (List Data) := l.map fun s => [str s]
theorem strs_length (l : List ByteArray) : (strs l).length = l.length := by simp [strs]
theorem strs_get {l : List ByteArray} {k : Nat} (h : k < l.length) : (strs l)[((k : Nat) : Int).toNat]? = some [str (l[k]'h)] := by
 rw [Int.toNat_natCast]
 simp [strs, h]
def tt : Data := .s (.bool true)
def mapL (l : List ByteArray) : List (ByteArray × Data) := l.foldl (fun m w => mapPut m w tt) []
theorem mapL_succ (l : List ByteArray) (k : Nat) (h : k < l.length) : mapPut (mapL (l.take k)) (l[k]'h) tt = mapL (l.take (k + 1)) := by
 unfold mapL
 rw [List.take_succ_eq_append_getElem h, List.foldl_append]
 rfl
theorem reserved_spec (G : Glob) (l : List ByteArray) (hl : l.length < 1000) : Spec Tryz.prog G 254 [.d (.sl 1 (strs l))] [] (.ret (.acc 0)) [.map 212 (mapL l)] := by
 refine spec_of_awp2 TT_ok (N := 17) Tryz.func254 rfl (by rfl) (Nat.zero_le _) rfl ?_; refine rgs fun E K J O => ?_; refine O _ (aN [0] rfl rfl ?_); clear O J K E; refine rgs fun E K J O => ?_; refine O _ (aN [0, 3] rfl rfl ?_); clear O J K E; refine awp_seq ?_; refine rgs fun E K J O => ?_; refine O _ (aN [3, 7, 8, 9] rfl rfl ?_); clear O J K E; refine awp_block ?_; refine awp_loop (fun n Y => ∃ k : Nat, n = l.length - k ∧ k ≤ l.length ∧ Y = ⟨[(3, .acc 0), (7, .d (.sl 1 (strs l))), (8, .d (.s (.int .i64 (strs l).length))), (9, .d (.s (.int .i64 k)))], [.map 212 (mapL (l.take k))]⟩) (l.length) (⟨0, rfl, Nat.zero_le _, rfl⟩) ?_; rintro n Y ⟨k, hn, hk, rfl⟩; refine rgs fun E K J O => ?_; refine O _ (aN [3, 7, 8, 9, 10] rfl rfl ?_); clear O J K E; refine awp_seq ?_; refine awp_cond2 rfl (onB_intro (fun h1 => ?_) (fun h1 => ?_))
 ·have h1' := of_decide_eq_true h1
  rw [strs_length] at h1'; refine awp_skip ?_; refine awp_seq ?_; refine awp_block ?_; refine rgs fun E K J O => ?_; refine And.intro (by omega) (Exists.intro _ (And.intro (strs_get (by omega)) ?_)); refine O _ (aN [3, 5, 7, 8, 9] rfl rfl ?_); clear O J K E; refine rgn fun E K J O => ?_; refine Exists.intro _ (And.intro rfl ?_); refine O _ (aN [3, 7, 8, 9] rfl rfl ?_); clear O J K E; refine rgn fun E K J O => ?_; refine O _ ?_; clear O J K E; refine ⟨n - 1, by omega, _, sub_norm (slots := [3, 7, 8, 9]) rfl rfl, k + 1, by omega, by omega, ?_⟩; rw [show IntKind.i64.wrap ((k : Int) + 1) = ((k + 1 : Nat) : Int) from by rw [wrapId (by omega) (by omega)]; omega, show Data.s (Value.bool true) = tt from rfl, mapL_succ l k (by omega)]
 have h1' := of_decide_eq_false h1; rw [strs_length] at h1'
 obtain rfl : k = l.length := by omega
 rw [List.take_length]; refine awp_exit ?_; refine rgs fun E K J O => ?_; refine O _ (aN [2] rfl rfl ?_); clear O J K E; refine awp_ret ?_; exact ⟨_, [0], _, _, rfl, rfl, rfl, rfl, rfl, PWs.refl _, rfl⟩
def resW : List ByteArray := [⟨#[118, 97, 114]⟩, ⟨#[97, 114, 114, 97, 121]⟩, ⟨#[112, 114, 111, 99]⟩, ⟨#[109, 97, 105, 110]⟩, ⟨#[114, 101, 116, 117, 114, 110]⟩, ⟨#[99, 97, 108, 108]⟩, ⟨#[105, 102]⟩, ⟨#[101, 108, 115, 101]⟩, ⟨#[119, 104, 105, 108, 101]⟩, ⟨#[97, 115, 115, 101, 114, 116]⟩, ⟨#[97, 115, 115, 117, 109, 101]⟩, ⟨#[114, 101, 97, 100]⟩, ⟨#[97, 110, 100]⟩, ⟨#[111, 114]⟩, ⟨#[116, 114, 117, 101]⟩, ⟨#[102, 97, 108, 115, 101]⟩]
theorem words_spec (G : Glob) : Spec Tryz.prog G 210 [] [] (.ret (.acc 0)) [.map 212 (mapL resW)] := by
 refine spec_of_awp2 TT_ok (N := 3) Tryz.func210 rfl (by rfl) (Nat.zero_le _) rfl ?_; refine rgs fun E K J O => ?_; refine O _ (aN [] rfl rfl ?_); clear O J K E; refine rgs fun E K J O => ?_; show aCall _ _ _ _ _ _ _; refine aR [] rfl rfl rfl (reserved_spec G resW (by decide)) rfl rfl rfl rfl ?_; refine O _ (aN [0] rfl rfl ?_); clear O J K E; refine awp_ret ?_; exact ⟨_, [0], _, _, rfl, rfl, rfl, rfl, rfl, PWs.refl _, rfl⟩
theorem mapPut_tt : ∀ (m : List (ByteArray × Data)) (w : ByteArray), (∀ x ∈ m, x.2 = tt) → ∀ x ∈ mapPut m w tt, x.2 = tt
 | [], w, h, x, hx => by simp only [mapPut, List.mem_singleton] at hx; rw [hx]
 | (k, q) :: r, w, h, x, hx => by
  simp only [mapPut] at hx; split at hx
  ·rcases List.mem_cons.1 hx with rfl | hx
   ·rfl
   exact h x (List.mem_cons_of_mem _ hx)
  rcases List.mem_cons.1 hx with rfl | hx
  ·exact h _ (List.mem_cons_self ..)
  exact mapPut_tt r w (fun y hy => h y (List.mem_cons_of_mem _ hy)) x hx
theorem mapL_tt (l : List ByteArray) : ∀ x ∈ mapL l, x.2 = tt := by
 unfold mapL
 suffices h : ∀ (l : List ByteArray) (m : List (ByteArray × Data)), (∀ x ∈ m, x.2 = tt) → ∀ x ∈ l.foldl (fun m w => mapPut m w tt) m, x.2 = tt from h l [] (by simp)
 intro l
 induction l with
 | nil => intro m h; exact h
 | cons w r ih => intro m h; exact ih _ (mapPut_tt m w h)
theorem mapGet_tt : ∀ {m : List (ByteArray × Data)} {w : ByteArray} {p : Data}, (∀ x ∈ m, x.2 = tt) → mapGet m w = some p → p = tt
 | [], _, _, _, h => by cases h
 | (k, q) :: r, w, p, hm, h => by
  simp only [mapGet] at h; split at h
  ·cases h; exact hm _ (List.mem_cons_self ..)
  exact mapGet_tt (fun y hy => hm y (List.mem_cons_of_mem _ hy)) h
def isRes (s : ByteArray) : Bool := (mapGet (mapL resW) s).isSome
def letF (s : ByteArray) : Nat → Nat → Bool
 | 0, _ => true
 | n + 1, i => match decide ((i : Int) < (s.size : Int)) with
  | true => match (decide (byteAt s i < 97) || decide (byteAt s i > 122)) with
   | true => false
   | false => letF s n (i + 1)
  | false => true
def isNameF (s : ByteArray) : Bool := match letF s s.size 0 with
 | true => (!(s.toList == (⟨#[]⟩ : ByteArray).toList)) && decide ((s.size : Int) ≤ 8) && !isRes s
 | false => false
attribute [local irreducible] mapL
theorem isName_spec (G : Glob) (s : ByteArray) (hs : s.size < 4611686018427387904) : Spec Tryz.prog G 150 [.d (str s)] [] (.ret (.d (.s (.bool (isNameF s))))) [] := by
 obtain ⟨r, hr⟩ : ∃ r, isNameF s = r := ⟨_, rfl⟩; rw [hr]; refine spec_of_awp2 TT_ok (N := 33) Tryz.func150 rfl (by rfl) (Nat.le_refl _) rfl ?_; refine rgs fun E K J O => ?_; refine O _ (aN [0] rfl rfl ?_); clear O J K E; refine awp_seq ?_; refine rgs fun E K J O => ?_; refine O _ (aN [0, 5, 6] rfl rfl ?_); clear O J K E; refine awp_block ?_; refine awp_loop (fun n Y => ∃ k : Nat, n = s.size - k ∧ k ≤ s.size ∧ letF s n k = letF s s.size 0 ∧ Y = ⟨[(0, .d (.s (.string s))), (5, .d (.s (.int .i64 s.size))), (6, .d (.s (.int .i64 k)))], []⟩) (s.size) (⟨0, rfl, Nat.zero_le _, rfl, rfl⟩) ?_; rintro n Y ⟨k, hn, hk, hlb, rfl⟩; refine rgs fun E K J O => ?_; refine O _ (aN [0, 5, 6, 7] rfl rfl ?_); clear O J K E; refine awp_seq ?_; refine awp_cond2 rfl (onB_intro (fun h1 => ?_) (fun h1 => ?_))
 ·have h1' := of_decide_eq_true h1
  obtain ⟨m, rfl⟩ : ∃ m, n = m + 1 := ⟨n - 1, by omega⟩; simp only [letF, h1] at hlb; refine awp_skip ?_; refine awp_seq ?_; refine awp_block ?_; refine rgs fun E K J O => ?_; refine O _ (aN [0, 3, 5, 6] rfl rfl ?_); clear O J K E; refine rgs fun E K J O => ?_; refine And.intro (by omega) (And.intro (by omega) ?_); refine onB_intro (fun h2 => ?_) (fun h2 => ?_)
  ·try simp only [h2, Bool.true_or] at hlb
   refine O _ (aN [0, 5, 6, 18] rfl rfl ?_); clear O J K E; refine awp_cond rfl ?_; refine rgs fun E K J O => ?_; refine O _ (aN [2] rfl rfl ?_); clear O J K E; refine awp_ret ?_; simp only [isNameF, ← hlb] at hr; subst hr; exact ⟨_, [], _, _, rfl, rfl, rfl, rfl, rfl, PWs.refl _, rfl⟩
  refine And.intro (by omega) (And.intro (by omega) ?_); refine O _ (aN [0, 5, 6, 18] rfl rfl ?_); clear O J K E; refine awp_cond2 rfl (onB_intro (fun h3 => ?_) (fun h3 => ?_))
  ·try simp only [h2, h3, Bool.false_or] at hlb
   refine rgs fun E K J O => ?_; refine O _ (aN [2] rfl rfl ?_); clear O J K E; refine awp_ret ?_; simp only [isNameF, ← hlb] at hr; subst hr; exact ⟨_, [], _, _, rfl, rfl, rfl, rfl, rfl, PWs.refl _, rfl⟩
  try simp only [h2, h3, Bool.false_or] at hlb
  refine awp_skip ?_; refine rgn fun E K J O => ?_; refine O _ ?_; clear O J K E; refine ⟨m, by omega, _, sub_norm (slots := [0, 5, 6]) rfl rfl, k + 1, by omega, by omega, hlb, ?_⟩; rw [show IntKind.i64.wrap ((k : Int) + 1) = ((k + 1 : Nat) : Int) from by rw [wrapId (by omega) (by omega)]; omega]
 have h1' := of_decide_eq_false h1
 obtain rfl : n = 0 := by omega
 simp only [letF] at hlb; refine awp_exit ?_; refine rgs fun E K J O => ?_; refine onB_intro (fun h2 => ?_) (fun h2 => ?_)
 ·try simp only [h2, Bool.true_or] at hlb
  refine onB_intro (fun h3 => ?_) (fun h3 => ?_)
  ·try simp only [h2, h3, Bool.false_or] at hlb
   show aCall _ _ _ _ _ _ _
   refine aR [] rfl rfl rfl (words_spec G) rfl rfl rfl rfl ?_
   cases hm : mapGet (mapL resW) s with
   | none =>
    refine ⟨none, hm, ?_⟩; refine O _ (aN [2] rfl rfl ?_); clear O J K E; refine awp_ret ?_; simp only [isNameF, ← hlb, h2, h3, isRes, hm, Option.isSome, Bool.and_true, Bool.not_false] at hr; subst hr; exact ⟨_, [], _, _, rfl, rfl, rfl, rfl, rfl, PWs.refl _, rfl⟩
   | some p =>
    obtain rfl := mapGet_tt (mapL_tt _) hm; refine ⟨some tt, hm, ?_⟩; refine O _ (aN [2] rfl rfl ?_); clear O J K E; refine awp_ret ?_; simp only [isNameF, ← hlb, h2, h3, isRes, hm, Option.isSome, Bool.and_true, Bool.and_false, Bool.not_true] at hr; subst hr; exact ⟨_, [], _, _, rfl, rfl, rfl, rfl, rfl, PWs.refl _, rfl⟩
  try simp only [h2, h3, Bool.false_or] at hlb
  refine O _ (aN [2] rfl rfl ?_); clear O J K E; refine awp_ret ?_; simp only [isNameF, ← hlb, h2, h3, Bool.false_and, Bool.and_false] at hr; subst hr; exact ⟨_, [], _, _, rfl, rfl, rfl, rfl, rfl, PWs.refl _, rfl⟩
 refine O _ (aN [2] rfl rfl ?_); clear O J K E; refine awp_ret ?_; simp only [isNameF, ← hlb, h2, Bool.false_and] at hr; subst hr; exact ⟨_, [], _, _, rfl, rfl, rfl, rfl, rfl, PWs.refl _, rfl⟩
end Go.Abs
end
section
namespace Go.Proofs
open Go.Shelf
def Tryz.lays169_ren : Go.Shelf.Ren := ⟨fun | 169 => 82 | n => n, fun | 70 => 162 | 9 => 9 | 0 => 0 | 72 => 165 | 37 => 163 | 127 => 269 | 3 => 3 | 5 => 5 | n => n, fun | n => n⟩
theorem Tryz.lays169 : Go.Proofs.Lays.n169 Tryz.prog Tryz.lays169_ren := {
 mixed := by kernel_rfl
 f169 := Tryz.func82.trans (congrArg some (by kernel_rfl))
 t0 := Tryz.underlying0
 a0 := Tryz.isAgg0
 z0 := Tryz.sizeOf0
 v0 := Tryz.zeroValue0
 t3 := Tryz.underlying3
 a3 := Tryz.isAgg3
 z3 := Tryz.sizeOf3
 v3 := Tryz.zeroValue3
 t9 := Tryz.underlying9
 a9 := Tryz.isAgg9
 z9 := Tryz.sizeOf9
 v9 := Tryz.zeroValue9
 t37 := Tryz.underlying163
 a37 := Tryz.isAgg163
 z37 := Tryz.sizeOf163
 v37 := Tryz.zeroValue163
 t70 := Tryz.underlying162
 a70 := Tryz.isAgg162
 z70 := Tryz.sizeOf162
 v70 := Tryz.zeroValue162
 t72 := Tryz.underlying165
 a72 := Tryz.isAgg165
 z72 := Tryz.sizeOf165
 v72 := Tryz.zeroValue165
 t127 := Tryz.underlying269
 a127 := Tryz.isAgg269
 z127 := Tryz.sizeOf269
 v127 := Tryz.zeroValue269 }
def Tryz.lays156_ren : Go.Shelf.Ren := ⟨fun | 156 => 78 | 165 => 152 | 166 => 148 | 169 => 82 | 240 => 207 | 241 => 212 | 276 => 250 | 277 => 259 | n => n, fun | 31 => 23 | 9 => 9 | 3 => 3 | 4 => 4 | 0 => 0 | 20 => 20 | 72 => 165 | 76 => 264 | 70 => 162 | 37 => 163 | 75 => 30 | 127 => 269 | 164 => 306 | 5 => 5 | 80 => 139 | n => n, fun | n => n⟩
theorem Tryz.lays156 : Go.Proofs.Lays.n156 Tryz.prog Tryz.lays156_ren := {
 mixed := by kernel_rfl
 f156 := Tryz.func78.trans (congrArg some (by kernel_rfl))
 f165 := Tryz.func152.trans (congrArg some (by kernel_rfl))
 f166 := Tryz.func148.trans (congrArg some (by kernel_rfl))
 f169 := Tryz.func82.trans (congrArg some (by kernel_rfl))
 f240 := Tryz.func207.trans (congrArg some (by kernel_rfl))
 f241 := Tryz.func212.trans (congrArg some (by kernel_rfl))
 f276 := Tryz.func250.trans (congrArg some (by kernel_rfl))
 f277 := Tryz.func259.trans (congrArg some (by kernel_rfl))
 t0 := Tryz.underlying0
 a0 := Tryz.isAgg0
 z0 := Tryz.sizeOf0
 v0 := Tryz.zeroValue0
 t3 := Tryz.underlying3
 a3 := Tryz.isAgg3
 z3 := Tryz.sizeOf3
 v3 := Tryz.zeroValue3
 t4 := Tryz.underlying4
 a4 := Tryz.isAgg4
 z4 := Tryz.sizeOf4
 v4 := Tryz.zeroValue4
 t9 := Tryz.underlying9
 a9 := Tryz.isAgg9
 z9 := Tryz.sizeOf9
 v9 := Tryz.zeroValue9
 t20 := Tryz.underlying20
 a20 := Tryz.isAgg20
 z20 := Tryz.sizeOf20
 v20 := Tryz.zeroValue20
 t31 := Tryz.underlying23
 a31 := Tryz.isAgg23
 z31 := Tryz.sizeOf23
 v31 := Tryz.zeroValue23
 t37 := Tryz.underlying163
 a37 := Tryz.isAgg163
 z37 := Tryz.sizeOf163
 v37 := Tryz.zeroValue163
 t70 := Tryz.underlying162
 a70 := Tryz.isAgg162
 z70 := Tryz.sizeOf162
 v70 := Tryz.zeroValue162
 t72 := Tryz.underlying165
 a72 := Tryz.isAgg165
 z72 := Tryz.sizeOf165
 v72 := Tryz.zeroValue165
 t75 := Tryz.underlying30
 a75 := Tryz.isAgg30
 z75 := Tryz.sizeOf30
 v75 := Tryz.zeroValue30
 t76 := Tryz.underlying264
 a76 := Tryz.isAgg264
 z76 := Tryz.sizeOf264
 v76 := Tryz.zeroValue264
 t127 := Tryz.underlying269
 a127 := Tryz.isAgg269
 z127 := Tryz.sizeOf269
 v127 := Tryz.zeroValue269
 t164 := Tryz.underlying306
 a164 := Tryz.isAgg306
 z164 := Tryz.sizeOf306
 v164 := Tryz.zeroValue306 }
theorem Tryz.Builder_Extra_156 : Builder.Extra Tryz.prog Tryz.lays156_ren := {
 sizeBuilder := by kernel_rfl
 liesBuilder := by kernel_rfl
 t5 := Tryz.underlying5
 a5 := Tryz.isAgg5
 z5 := Tryz.sizeOf5
 v5 := Tryz.zeroValue5
 infoByte := by kernel_rfl
 cellsByte := by kernel_rfl
 sizeByte := by kernel_rfl
 neB5 := by decide }
open Go.RowKit in
/-- No element: the empty string; the world is as it was. (Whatever the slice's address and capacity: a nil slice too.) (LAID: no walk: one application.) -/
theorem Tryz.strings_Join_none (a : Option Addr) (c : Nat) (sep : ByteArray) (w : World) :
  Calls Tryz.prog 78 #[.slice a 0 c, .string sep] w fun e w' => e = .returned (.string ⟨#[]⟩) ∧ w' = w := Any.strings_Join_none Tryz.lays156 Tryz.Builder_Extra_156 a c sep w
open Go.RowKit in
/-- strings.Join: "Join concatenates the elements of its first argument to create a single string. The separator string sep is placed between elements in the resulting string.": HOWEVER MANY ELEMENTS. Below the heap's end the world is as it was. (LAID: no walk: one application.) -/
theorem Tryz.strings_Join (bk o c : Nat) (xs : List ByteArray) (sep : ByteArray) (w : World) (hcells : ∀ (j : Nat) x, xs[j]? = some x → w.cell? ⟨bk, o + j, none⟩ = some (.string x)) (hbk : bk < w.heap.size) (hN : xs.length ≤ 140737488355328) (hcap : xs.length ≤ c) (hlen : (Lib.join (xs.map (·.data.toList)) sep.data.toList).length ≤ 140737488355328) :
  Calls Tryz.prog 78 #[.slice (some ⟨bk, o, none⟩) xs.length c, .string sep] w fun e w' => e = .returned (.string ⟨(Lib.join (xs.map (·.data.toList)) sep.data.toList).toArray⟩) ∧ Below w.heap.size w w' := Any.strings_Join Tryz.lays156 Tryz.Builder_Extra_156 bk o c xs sep w hcells hbk hN hcap hlen
def Tryz.laysM171_ren : Go.Shelf.Ren := ⟨fun | 171 => 77 | 243 => 151 | 246 => 211 | 283 => 255 | 284 => 256 | 285 => 257 | 286 => 258 | 129 => 237 | 317 => 278 | 318 => 279 | 319 => 280 | 320 => 281 | 337 => 286 | 338 => 287 | n => n, fun | 3 => 3 | 9 => 9 | 2 => 2 | 4 => 4 | 171 => 373 | 0 => 0 | 53 => 345 | 37 => 163 | 5 => 5 | 173 => 375 | 212 => 397 | 51 => 343 | 20 => 20 | 213 => 398 | 46 => 286 | 232 => 412 | 233 => 413 | n => n, fun | 17 => 9 | 18 => 13 | 19 => 14 | n => n⟩
theorem Tryz.laysM171 : Go.Proofs.LaysM.n171 Tryz.prog Tryz.laysM171_ren := {
 mixed := by kernel_rfl
 f129 := Tryz.func237.trans (congrArg some (by kernel_rfl))
 f171 := Tryz.func77.trans (congrArg some (by kernel_rfl))
 f243 := Tryz.func151.trans (congrArg some (by kernel_rfl))
 f246 := Tryz.func211.trans (congrArg some (by kernel_rfl))
 f283 := Tryz.func255.trans (congrArg some (by kernel_rfl))
 f284 := Tryz.func256.trans (congrArg some (by kernel_rfl))
 f285 := Tryz.func257.trans (congrArg some (by kernel_rfl))
 f286 := Tryz.func258.trans (congrArg some (by kernel_rfl))
 f317 := Tryz.func278.trans (congrArg some (by kernel_rfl))
 f318 := Tryz.func279.trans (congrArg some (by kernel_rfl))
 f319 := Tryz.func280.trans (congrArg some (by kernel_rfl))
 f320 := Tryz.func281.trans (congrArg some (by kernel_rfl))
 f337 := Tryz.func286.trans (congrArg some (by kernel_rfl))
 f338 := Tryz.func287.trans (congrArg some (by kernel_rfl))
 t0 := Tryz.underlying0
 a0 := Tryz.isAgg0
 z0 := Tryz.sizeOf0
 v0 := Tryz.zeroValue0
 t2 := Tryz.underlying2
 a2 := Tryz.isAgg2
 z2 := Tryz.sizeOf2
 v2 := Tryz.zeroValue2
 t3 := Tryz.underlying3
 a3 := Tryz.isAgg3
 z3 := Tryz.sizeOf3
 v3 := Tryz.zeroValue3
 t4 := Tryz.underlying4
 a4 := Tryz.isAgg4
 z4 := Tryz.sizeOf4
 v4 := Tryz.zeroValue4
 t5 := Tryz.underlying5
 a5 := Tryz.isAgg5
 z5 := Tryz.sizeOf5
 v5 := Tryz.zeroValue5
 t9 := Tryz.underlying9
 a9 := Tryz.isAgg9
 z9 := Tryz.sizeOf9
 v9 := Tryz.zeroValue9
 t20 := Tryz.underlying20
 a20 := Tryz.isAgg20
 z20 := Tryz.sizeOf20
 v20 := Tryz.zeroValue20
 t37 := Tryz.underlying163
 a37 := Tryz.isAgg163
 z37 := Tryz.sizeOf163
 v37 := Tryz.zeroValue163
 t46 := Tryz.underlying286
 a46 := Tryz.isAgg286
 z46 := Tryz.sizeOf286
 v46 := Tryz.zeroValue286
 t51 := Tryz.underlying343
 a51 := Tryz.isAgg343
 z51 := Tryz.sizeOf343
 v51 := Tryz.zeroValue343
 t53 := Tryz.underlying345
 a53 := Tryz.isAgg345
 z53 := Tryz.sizeOf345
 v53 := Tryz.zeroValue345
 t171 := Tryz.underlying373
 a171 := Tryz.isAgg373
 z171 := Tryz.sizeOf373
 v171 := Tryz.zeroValue373
 t173 := Tryz.underlying375
 a173 := Tryz.isAgg375
 z173 := Tryz.sizeOf375
 v173 := Tryz.zeroValue375
 t212 := Tryz.underlying397
 a212 := Tryz.isAgg397
 z212 := Tryz.sizeOf397
 v212 := Tryz.zeroValue397
 t213 := Tryz.underlying398
 a213 := Tryz.isAgg398
 z213 := Tryz.sizeOf398
 t232 := Tryz.underlying412
 a232 := Tryz.isAgg412
 z232 := Tryz.sizeOf412
 v232 := Tryz.zeroValue412
 t233 := Tryz.underlying413
 a233 := Tryz.isAgg413
 z233 := Tryz.sizeOf413
 v233 := Tryz.zeroValue413
 g17 := by kernel_rfl
 g18 := by kernel_rfl
 g19 := by kernel_rfl
 i0 := by kernel_rfl
 i2 := by kernel_rfl
 i3 := by kernel_rfl
 i4 := by kernel_rfl
 i5 := by kernel_rfl
 i9 := by kernel_rfl
 i20 := by kernel_rfl
 i37 := by kernel_rfl
 i46 := by kernel_rfl
 i51 := by kernel_rfl
 i53 := by kernel_rfl
 i171 := by kernel_rfl
 i173 := by kernel_rfl
 i212 := by kernel_rfl
 i232 := by kernel_rfl
 i233 := by kernel_rfl
 m17 := by kernel_rfl
 m18 := by kernel_rfl
 m19 := by kernel_rfl }
open Go.RowKit Go.Sort Go.Lib in
/-- strconv.Itoa: "Itoa is equivalent to FormatInt(int64(i), 10).": i's DECIMAL NUMERAL ('Lib.itoa': a '-' where i is negative, then the digits), FOR EVERY int. The world behind the call: the world before it, new blocks behind the heap (the library's 'var a [24]byte'), draws. (LAID: no walk: one application.) -/
theorem Tryz.strconv_Itoa (n : Int) (h0 : -9223372036854775808 ≤ n) (h1 : n ≤ 9223372036854775807) (w : World) (htab : Lib.TabIs Tryz.prog w "internal/strconv.uint64pow10" .u64 Lib.pow10Tab) :
  Calls Tryz.prog 77 #[.int .i64 n] w fun e w' => e = .returned (.string ⟨(Lib.itoa n).toArray⟩) ∧ ∃ k os, w' = grow (w.drewN k) os := Any.strconv_Itoa Tryz.laysM171 n h0 h1 w htab
def Tryz.laysC172_ren : Go.Shelf.Ren := ⟨fun | 172 => 196 | 244 => 243 | 245 => 244 | 247 => 271 | 279 => 272 | 280 => 273 | 281 => 274 | 282 => 275 | 287 => 283 | 316 => 284 | 171 => 77 | 205 => 285 | 321 => 288 | 322 => 289 | 243 => 151 | 246 => 211 | 283 => 255 | 284 => 256 | 285 => 257 | 286 => 258 | 129 => 237 | 317 => 278 | 318 => 279 | 319 => 280 | 320 => 281 | 337 => 286 | 338 => 287 | n => n, fun | 9 => 9 | 3 => 3 | 75 => 30 | 76 => 264 | 4 => 4 | 5 => 5 | 167 => 388 | 37 => 163 | 0 => 0 | 85 => 389 | 2 => 2 | 168 => 391 | 53 => 345 | 175 => 403 | 46 => 286 | 210 => 406 | 127 => 269 | 145 => 411 | 143 => 409 | 21 => 21 | 171 => 373 | 173 => 375 | 212 => 397 | 51 => 343 | 20 => 20 | 213 => 398 | 232 => 412 | 233 => 413 | 80 => 139 | n => n, fun | 15 => 11 | 16 => 12 | 17 => 9 | 18 => 13 | 19 => 14 | n => n⟩
theorem Tryz.laysC172 : Go.Proofs.LaysC.n172 Tryz.prog Tryz.laysC172_ren := {
 mixed := by kernel_rfl
 f129 := Tryz.func237.trans (congrArg some (by kernel_rfl))
 f171 := Tryz.func77.trans (congrArg some (by kernel_rfl))
 f172 := Tryz.func196.trans (congrArg some (by kernel_rfl))
 f205 := Tryz.func285.trans (congrArg some (by kernel_rfl))
 f243 := Tryz.func151.trans (congrArg some (by kernel_rfl))
 f244 := Tryz.func243.trans (congrArg some (by kernel_rfl))
 f245 := Tryz.func244.trans (congrArg some (by kernel_rfl))
 f246 := Tryz.func211.trans (congrArg some (by kernel_rfl))
 f247 := Tryz.func271.trans (congrArg some (by kernel_rfl))
 f279 := Tryz.func272.trans (congrArg some (by kernel_rfl))
 f280 := Tryz.func273.trans (congrArg some (by kernel_rfl))
 f281 := Tryz.func274.trans (congrArg some (by kernel_rfl))
 f282 := Tryz.func275.trans (congrArg some (by kernel_rfl))
 f283 := Tryz.func255.trans (congrArg some (by kernel_rfl))
 f284 := Tryz.func256.trans (congrArg some (by kernel_rfl))
 f285 := Tryz.func257.trans (congrArg some (by kernel_rfl))
 f286 := Tryz.func258.trans (congrArg some (by kernel_rfl))
 f287 := Tryz.func283.trans (congrArg some (by kernel_rfl))
 f316 := Tryz.func284.trans (congrArg some (by kernel_rfl))
 f317 := Tryz.func278.trans (congrArg some (by kernel_rfl))
 f318 := Tryz.func279.trans (congrArg some (by kernel_rfl))
 f319 := Tryz.func280.trans (congrArg some (by kernel_rfl))
 f320 := Tryz.func281.trans (congrArg some (by kernel_rfl))
 f321 := Tryz.func288.trans (congrArg some (by kernel_rfl))
 f322 := Tryz.func289.trans (congrArg some (by kernel_rfl))
 f337 := Tryz.func286.trans (congrArg some (by kernel_rfl))
 f338 := Tryz.func287.trans (congrArg some (by kernel_rfl))
 t0 := Tryz.underlying0
 a0 := Tryz.isAgg0
 z0 := Tryz.sizeOf0
 v0 := Tryz.zeroValue0
 t2 := Tryz.underlying2
 a2 := Tryz.isAgg2
 z2 := Tryz.sizeOf2
 v2 := Tryz.zeroValue2
 t3 := Tryz.underlying3
 a3 := Tryz.isAgg3
 z3 := Tryz.sizeOf3
 v3 := Tryz.zeroValue3
 t4 := Tryz.underlying4
 a4 := Tryz.isAgg4
 z4 := Tryz.sizeOf4
 v4 := Tryz.zeroValue4
 t5 := Tryz.underlying5
 a5 := Tryz.isAgg5
 z5 := Tryz.sizeOf5
 v5 := Tryz.zeroValue5
 t9 := Tryz.underlying9
 a9 := Tryz.isAgg9
 z9 := Tryz.sizeOf9
 v9 := Tryz.zeroValue9
 t20 := Tryz.underlying20
 a20 := Tryz.isAgg20
 z20 := Tryz.sizeOf20
 v20 := Tryz.zeroValue20
 t21 := Tryz.underlying21
 a21 := Tryz.isAgg21
 z21 := Tryz.sizeOf21
 v21 := Tryz.zeroValue21
 t37 := Tryz.underlying163
 a37 := Tryz.isAgg163
 z37 := Tryz.sizeOf163
 v37 := Tryz.zeroValue163
 t46 := Tryz.underlying286
 a46 := Tryz.isAgg286
 z46 := Tryz.sizeOf286
 v46 := Tryz.zeroValue286
 t51 := Tryz.underlying343
 a51 := Tryz.isAgg343
 z51 := Tryz.sizeOf343
 v51 := Tryz.zeroValue343
 t53 := Tryz.underlying345
 a53 := Tryz.isAgg345
 z53 := Tryz.sizeOf345
 v53 := Tryz.zeroValue345
 t75 := Tryz.underlying30
 a75 := Tryz.isAgg30
 z75 := Tryz.sizeOf30
 v75 := Tryz.zeroValue30
 t76 := Tryz.underlying264
 a76 := Tryz.isAgg264
 z76 := Tryz.sizeOf264
 v76 := Tryz.zeroValue264
 t85 := Tryz.underlying389
 a85 := Tryz.isAgg389
 z85 := Tryz.sizeOf389
 v85 := Tryz.zeroValue389
 t127 := Tryz.underlying269
 a127 := Tryz.isAgg269
 z127 := Tryz.sizeOf269
 v127 := Tryz.zeroValue269
 t143 := Tryz.underlying409
 a143 := Tryz.isAgg409
 z143 := Tryz.sizeOf409
 v143 := Tryz.zeroValue409
 t145 := Tryz.underlying411
 a145 := Tryz.isAgg411
 z145 := Tryz.sizeOf411
 v145 := Tryz.zeroValue411
 t167 := Tryz.underlying388
 a167 := Tryz.isAgg388
 z167 := Tryz.sizeOf388
 v167 := Tryz.zeroValue388
 t168 := Tryz.underlying391
 a168 := Tryz.isAgg391
 z168 := Tryz.sizeOf391
 v168 := Tryz.zeroValue391
 t171 := Tryz.underlying373
 a171 := Tryz.isAgg373
 z171 := Tryz.sizeOf373
 v171 := Tryz.zeroValue373
 t173 := Tryz.underlying375
 a173 := Tryz.isAgg375
 z173 := Tryz.sizeOf375
 v173 := Tryz.zeroValue375
 t175 := Tryz.underlying403
 a175 := Tryz.isAgg403
 z175 := Tryz.sizeOf403
 v175 := Tryz.zeroValue403
 t210 := Tryz.underlying406
 a210 := Tryz.isAgg406
 z210 := Tryz.sizeOf406
 v210 := Tryz.zeroValue406
 t212 := Tryz.underlying397
 a212 := Tryz.isAgg397
 z212 := Tryz.sizeOf397
 v212 := Tryz.zeroValue397
 t213 := Tryz.underlying398
 a213 := Tryz.isAgg398
 z213 := Tryz.sizeOf398
 t232 := Tryz.underlying412
 a232 := Tryz.isAgg412
 z232 := Tryz.sizeOf412
 v232 := Tryz.zeroValue412
 t233 := Tryz.underlying413
 a233 := Tryz.isAgg413
 z233 := Tryz.sizeOf413
 v233 := Tryz.zeroValue413
 g15 := by kernel_rfl
 g16 := by kernel_rfl
 g17 := by kernel_rfl
 g18 := by kernel_rfl
 g19 := by kernel_rfl
 t80 := Tryz.underlying139
 a80 := Tryz.isAgg139
 z80 := Tryz.sizeOf139
 v80 := Tryz.zeroValue139
 i0 := by kernel_rfl
 i2 := by kernel_rfl
 i3 := by kernel_rfl
 i4 := by kernel_rfl
 i5 := by kernel_rfl
 i9 := by kernel_rfl
 i20 := by kernel_rfl
 i21 := by kernel_rfl
 i37 := by kernel_rfl
 i46 := by kernel_rfl
 i51 := by kernel_rfl
 i53 := by kernel_rfl
 i75 := by kernel_rfl
 i76 := by kernel_rfl
 i80 := by kernel_rfl
 i85 := by kernel_rfl
 i127 := by kernel_rfl
 i143 := by kernel_rfl
 i145 := by kernel_rfl
 i167 := by kernel_rfl
 i168 := by kernel_rfl
 i171 := by kernel_rfl
 i173 := by kernel_rfl
 i175 := by kernel_rfl
 i210 := by kernel_rfl
 i212 := by kernel_rfl
 i232 := by kernel_rfl
 i233 := by kernel_rfl
 m15 := by kernel_rfl
 m16 := by kernel_rfl
 m17 := by kernel_rfl
 m18 := by kernel_rfl
 m19 := by kernel_rfl
 c0 := by kernel_rfl
 c2 := by kernel_rfl
 c3 := by kernel_rfl
 c4 := by kernel_rfl
 c5 := by kernel_rfl
 c9 := by kernel_rfl
 c20 := by kernel_rfl
 c21 := by kernel_rfl
 c37 := by kernel_rfl
 c46 := by kernel_rfl
 c51 := by kernel_rfl
 c53 := by kernel_rfl
 c75 := by kernel_rfl
 c76 := by kernel_rfl
 c80 := by kernel_rfl
 c85 := by kernel_rfl
 c127 := by kernel_rfl
 c143 := by kernel_rfl
 c145 := by kernel_rfl
 c167 := by kernel_rfl
 c168 := by kernel_rfl
 c171 := by kernel_rfl
 c173 := by kernel_rfl
 c175 := by kernel_rfl
 c210 := by kernel_rfl
 c212 := by kernel_rfl
 c213 := by kernel_rfl
 c232 := by kernel_rfl
 c233 := by kernel_rfl }
open Go.RowKit in
/-- strconv.Atoi, AT EVERY STRING THAT SPELLS AN int ('Lib.atoiAll .. = .ok v'; of whatever length: leading zeros count): v, AND NO ERROR. The world: as it was, or with the one new row that '[]byte(..)' lays. (LAID: no walk: one application.) -/
theorem Tryz.strconv_Atoi_ok (s : ByteArray) (hmax : s.size ≤ 9223372036854775806) (v : Int) (h : Lib.atoiAll s.data.toList = .ok v) (w : World) :
  Calls Tryz.prog 196 #[.string s] w fun e w' => e = .returned (.tuple #[.int .i64 v, .nilIface]) ∧ (w' = w ∨ ∃ t, w' = Lib.bytesWorld w 5 t) := Any.strconv_Atoi_ok Tryz.laysC172 s hmax v h w
open Go.RowKit in
/-- strconv.Atoi, AT EVERY STRING THAT IS NO DECIMAL NUMERAL ('.syntax'): 0, AND AN ERROR THAT IS NOT nil: a *NumError in a new block N: {Func: "Atoi", Num: s's bytes, Err: what the variable ErrSyntax holds}. Of what was there nothing has turned. (LAID: no walk: one application.) -/
theorem Tryz.strconv_Atoi_syntax (s : ByteArray) (hlim : s.size ≤ 281474976710656) (h : Lib.atoiAll s.data.toList = Lib.atoiAll []) (ev : Value) (w : World) (hv : w.cell? ⟨11, 0, none⟩ = some ev) (hev : ev = .nilIface ∨ ∃ te pe, ev = .iface te pe) :
  Calls Tryz.prog 196 #[.string s] w fun e w' => ∃ N, e = .returned (.tuple #[.int .i64 (0), .iface 391 (.pointer (some ⟨N, 0, none⟩))]) ∧ w.heap.size ≤ N ∧ w'.heap[N]? = some (.cells #[.string ⟨#[65, 116, 111, 105]⟩, .string s, ev] 406 (0, 0)) ∧ Below w.heap.size w w' := Any.strconv_Atoi_syntax Tryz.laysC172 s hlim h ev w hv hev
open Go.RowKit in
/-- strconv.Atoi, AT EVERY NUMERAL THAT NO int HOLDS ('.range'): THE GREATEST OR THE LEAST int, BY THE SIGN ('Lib.atoiSat'), AND AN ERROR THAT IS NOT nil: a *NumError in a new block N: {Func: "Atoi", Num: s's bytes, Err: what the variable ErrRange holds}. Of what was there nothing has turned. (LAID: no walk: one application.) -/
theorem Tryz.strconv_Atoi_range (s : ByteArray) (hlim : s.size ≤ 281474976710656) (h : Lib.atoiAll s.data.toList = .range) (ev : Value) (w : World) (hv : w.cell? ⟨12, 0, none⟩ = some ev) (hev : ev = .nilIface ∨ ∃ te pe, ev = .iface te pe) :
  Calls Tryz.prog 196 #[.string s] w fun e w' => ∃ N, e = .returned (.tuple #[.int .i64 (Lib.atoiSat s.data.toList), .iface 391 (.pointer (some ⟨N, 0, none⟩))]) ∧ w.heap.size ≤ N ∧ w'.heap[N]? = some (.cells #[.string ⟨#[65, 116, 111, 105]⟩, .string s, ev] 406 (0, 0)) ∧ Below w.heap.size w w' := Any.strconv_Atoi_range Tryz.laysC172 s hlim h ev w hv hev
def Tryz.lays105_ren : Go.Shelf.Ren := ⟨fun | 105 => 149 | 212 => 208 | 99 => 209 | 165 => 152 | 166 => 148 | 170 => 81 | 169 => 82 | 263 => 251 | 264 => 252 | 206 => 253 | 240 => 207 | 241 => 212 | 276 => 250 | 277 => 259 | n => n, fun | 9 => 9 | 3 => 3 | 4 => 4 | 20 => 20 | 0 => 0 | 46 => 286 | 109 => 320 | 5 => 5 | 72 => 165 | 76 => 264 | 51 => 343 | 146 => 368 | 53 => 345 | 148 => 370 | 70 => 162 | 37 => 163 | 75 => 30 | 127 => 269 | 164 => 306 | 80 => 139 | n => n, fun | n => n⟩
theorem Tryz.lays105 : Go.Proofs.Lays.n105 Tryz.prog Tryz.lays105_ren := {
 mixed := by kernel_rfl
 f99 := Tryz.func209.trans (congrArg some (by kernel_rfl))
 f105 := Tryz.func149.trans (congrArg some (by kernel_rfl))
 f165 := Tryz.func152.trans (congrArg some (by kernel_rfl))
 f166 := Tryz.func148.trans (congrArg some (by kernel_rfl))
 f169 := Tryz.func82.trans (congrArg some (by kernel_rfl))
 f170 := Tryz.func81.trans (congrArg some (by kernel_rfl))
 f206 := Tryz.func253.trans (congrArg some (by kernel_rfl))
 f212 := Tryz.func208.trans (congrArg some (by kernel_rfl))
 f240 := Tryz.func207.trans (congrArg some (by kernel_rfl))
 f241 := Tryz.func212.trans (congrArg some (by kernel_rfl))
 f263 := Tryz.func251.trans (congrArg some (by kernel_rfl))
 f264 := Tryz.func252.trans (congrArg some (by kernel_rfl))
 f276 := Tryz.func250.trans (congrArg some (by kernel_rfl))
 f277 := Tryz.func259.trans (congrArg some (by kernel_rfl))
 t0 := Tryz.underlying0
 a0 := Tryz.isAgg0
 z0 := Tryz.sizeOf0
 v0 := Tryz.zeroValue0
 t3 := Tryz.underlying3
 a3 := Tryz.isAgg3
 z3 := Tryz.sizeOf3
 v3 := Tryz.zeroValue3
 t4 := Tryz.underlying4
 a4 := Tryz.isAgg4
 z4 := Tryz.sizeOf4
 v4 := Tryz.zeroValue4
 t5 := Tryz.underlying5
 a5 := Tryz.isAgg5
 z5 := Tryz.sizeOf5
 v5 := Tryz.zeroValue5
 t9 := Tryz.underlying9
 a9 := Tryz.isAgg9
 z9 := Tryz.sizeOf9
 v9 := Tryz.zeroValue9
 t20 := Tryz.underlying20
 a20 := Tryz.isAgg20
 z20 := Tryz.sizeOf20
 v20 := Tryz.zeroValue20
 t37 := Tryz.underlying163
 a37 := Tryz.isAgg163
 z37 := Tryz.sizeOf163
 v37 := Tryz.zeroValue163
 t46 := Tryz.underlying286
 a46 := Tryz.isAgg286
 z46 := Tryz.sizeOf286
 v46 := Tryz.zeroValue286
 t51 := Tryz.underlying343
 a51 := Tryz.isAgg343
 z51 := Tryz.sizeOf343
 v51 := Tryz.zeroValue343
 t53 := Tryz.underlying345
 a53 := Tryz.isAgg345
 z53 := Tryz.sizeOf345
 v53 := Tryz.zeroValue345
 t70 := Tryz.underlying162
 a70 := Tryz.isAgg162
 z70 := Tryz.sizeOf162
 v70 := Tryz.zeroValue162
 t72 := Tryz.underlying165
 a72 := Tryz.isAgg165
 z72 := Tryz.sizeOf165
 v72 := Tryz.zeroValue165
 t75 := Tryz.underlying30
 a75 := Tryz.isAgg30
 z75 := Tryz.sizeOf30
 v75 := Tryz.zeroValue30
 t76 := Tryz.underlying264
 a76 := Tryz.isAgg264
 z76 := Tryz.sizeOf264
 v76 := Tryz.zeroValue264
 t109 := Tryz.underlying320
 a109 := Tryz.isAgg320
 z109 := Tryz.sizeOf320
 v109 := Tryz.zeroValue320
 t127 := Tryz.underlying269
 a127 := Tryz.isAgg269
 z127 := Tryz.sizeOf269
 v127 := Tryz.zeroValue269
 t146 := Tryz.underlying368
 a146 := Tryz.isAgg368
 z146 := Tryz.sizeOf368
 v146 := Tryz.zeroValue368
 t148 := Tryz.underlying370
 a148 := Tryz.isAgg370
 z148 := Tryz.sizeOf370
 v148 := Tryz.zeroValue370
 t164 := Tryz.underlying306
 a164 := Tryz.isAgg306
 z164 := Tryz.sizeOf306
 v164 := Tryz.zeroValue306 }
theorem Tryz.Builder_Extra_105 : Builder.Extra Tryz.prog Tryz.lays105_ren := {
 sizeBuilder := by kernel_rfl
 liesBuilder := by kernel_rfl
 t5 := Tryz.underlying5
 a5 := Tryz.isAgg5
 z5 := Tryz.sizeOf5
 v5 := Tryz.zeroValue5
 infoByte := by kernel_rfl
 cellsByte := by kernel_rfl
 sizeByte := by kernel_rfl
 neB5 := by decide }
open Go.RowKit Go.Lib in
/-- **strings.Repeat: count ≥ 0, the result within one allocation: count copies of s.** (LAID: no walk: one application.) -/
theorem Tryz.strings_Repeat (s : ByteArray) (c : Nat) (w : World) (hc : c ≤ 9223372036854775807) (hlen : s.size * c ≤ 140737488355328) :
  Calls Tryz.prog 149 #[.string s, .int .i64 c] w fun e w' => e = .returned (.string ⟨(Lib.repeatL s.data.toList c).toArray⟩) ∧ Below w.heap.size w w' := Any.strings_Repeat Tryz.lays105 Tryz.Builder_Extra_105 s c w hc hlen
def Tryz.laysNm216_ren : Go.Shelf.Ren := ⟨fun | 16 => 95 | n => n, fun | 24 => 23 | 9 => 9 | 4 => 4 | n => n, fun | n => n⟩
theorem Tryz.laysNm216 : Go.Proofs.Lays2.n16 Tryz.prog Tryz.laysNm216_ren := {
 mixed := by kernel_rfl
 f16 := Tryz.func95.trans (congrArg some (by kernel_rfl))
 t4 := Tryz.underlying4
 a4 := Tryz.isAgg4
 z4 := Tryz.sizeOf4
 v4 := Tryz.zeroValue4
 t9 := Tryz.underlying9
 a9 := Tryz.isAgg9
 z9 := Tryz.sizeOf9
 v9 := Tryz.zeroValue9
 t24 := Tryz.underlying23
 a24 := Tryz.isAgg23
 z24 := Tryz.sizeOf23
 v24 := Tryz.zeroValue23
 i9 := by kernel_rfl }
open Go.RowKit Go.Lib in
/-- slices.Clone at []string: "Clone returns a copy of the slice. The elements are copied using assignment, so this is a shallow clone. The result may have additional unused capacity. The result preserves the nilness of s.": OF A SLICE THAT IS NOT nil IT RETURNS A SLICE THAT IS NOT nil, OF THE SAME ELEMENTS, IN MEMORY OF THE CALL's OWN: in the how-to's words (6f): 'w'.ownsRow B e 1 v' n cells': v' begins at the head of a row among the blocks from B on (B: the heap's size at the call), not frozen, whose first cells are the elements · 'Below B w w'': below B all is as it was. The capacity is whatever the run-time gives. 'zs': what the cells behind the slice's address hold; 'zs.take n': its elements. (LAID: no walk: one application.) -/
theorem Tryz.slices_Clone_string (b off n c : Nat) (zs : List ByteArray) (w : World) (hz : n ≤ zs.length) (hbig : n * 16 ≤ 140737488355328) (hc : ∀ j, j < zs.length → w.cell? ⟨b, off + j, none⟩ = some (.string (zs.getD j ByteArray.empty))) :
  Calls Tryz.prog 95 #[.slice (some ⟨b, off, none⟩) n c] w fun e w' => ∃ v', e = .returned v' ∧ w'.ownsRow w.heap.size 9 1 v' n ((zs.take n).map (Value.string)) ∧ v' ≠ .slice none 0 0 ∧ Below w.heap.size w w' := Any.slices_Clone_string Tryz.laysNm216 b off n c zs w hz hbig hc
open Go.RowKit Go.Lib in
/-- The same at nil: nil comes back; the world is as it was. (LAID: no walk: one application.) -/
theorem Tryz.slices_Clone_string_nil (n c : Nat) (w : World) :
  Calls Tryz.prog 95 #[.slice none n c] w fun e w' => e = .returned (.slice none 0 0) ∧ w' = w := Any.slices_Clone_string_nil Tryz.laysNm216 n c w
open Go.RowKit Go.Lib in
/-- The same at a slice of length 0 that is not nil, WHATEVER ITS ADDRESS (no cell is asked for): a slice that is not nil and owns nothing comes back. (LAID: no walk: one application.) -/
theorem Tryz.slices_Clone_string_zero (a : Addr) (c : Nat) (w : World) :
  Calls Tryz.prog 95 #[.slice (some a) 0 c] w fun e w' => ∃ v', e = .returned v' ∧ w'.ownsRow w.heap.size 9 1 v' 0 [] ∧ v' ≠ .slice none 0 0 ∧ Below w.heap.size w w' := Any.slices_Clone_string_zero Tryz.laysNm216 a c w
def Tryz.lays194_ren : Go.Shelf.Ren := ⟨fun | 194 => 162 | n => n, fun | 31 => 23 | 9 => 9 | 3 => 3 | 4 => 4 | 0 => 0 | n => n, fun | n => n⟩
theorem Tryz.lays194 : Go.Proofs.Lays.n194 Tryz.prog Tryz.lays194_ren := {
 mixed := by kernel_rfl
 f194 := Tryz.func162.trans (congrArg some (by kernel_rfl))
 t0 := Tryz.underlying0
 a0 := Tryz.isAgg0
 z0 := Tryz.sizeOf0
 v0 := Tryz.zeroValue0
 t3 := Tryz.underlying3
 a3 := Tryz.isAgg3
 z3 := Tryz.sizeOf3
 v3 := Tryz.zeroValue3
 t4 := Tryz.underlying4
 a4 := Tryz.isAgg4
 z4 := Tryz.sizeOf4
 v4 := Tryz.zeroValue4
 t9 := Tryz.underlying9
 a9 := Tryz.isAgg9
 z9 := Tryz.sizeOf9
 v9 := Tryz.zeroValue9
 t31 := Tryz.underlying23
 a31 := Tryz.isAgg23
 z31 := Tryz.sizeOf23
 v31 := Tryz.zeroValue23 }
open Go.RowKit Go.Lib Go.Sort in
/-- slices.Compact at []string: "Compact replaces consecutive runs of equal elements with a single copy. This is like the uniq command found on Unix. Compact modifies the contents of the slice s and returns the modified slice, which may have a smaller length. Compact zeroes the elements between the new length and the original length. The result preserves the nilness of s.": IT RETURNS THE SLICE CUT TO 'Lib.compact zs'; ITS CELLS HOLD 'Lib.compact zs', THEN ZERO VALUES up to the old length; all else is as it was, but for the count of draws. IN THE WORDS OF slices.Sort's CONTRACT ('Holds', 'putRow'): so the everyday 'slices.Sort(xs); xs = slices.Compact(xs)' goes from the one contract to the other. It asks 'zs.length ≤ cap' (every slice's: the reslicing 's[:k]' looks at it). Length 0, nil: '.._empty'. (LAID: no walk: one application.) -/
theorem Tryz.slices_Compact_string (blk off cap : Nat) (zs : List (List UInt8)) (w : World) (hH : Holds encStr w blk off zs.toArray) (hsz : zs.length ≤ 9223372036854775807) (hcap : zs.length ≤ cap) :
  Calls Tryz.prog 162 #[.slice (some ⟨blk, off, none⟩) zs.length cap] w fun e w' => e = .returned (.slice (some ⟨blk, off, none⟩) (Lib.compact zs).length cap) ∧ ∃ q, w' = putRow encStr (Sort.ahead w q) blk off (Lib.compact zs ++ List.replicate (zs.length - (Lib.compact zs).length) []).toArray := Any.slices_Compact_string Tryz.lays194 blk off cap zs w hH hsz hcap
open Go.RowKit Go.Lib Go.Sort in
/-- The same at a slice of length 0, a nil one too: it comes back as it is. (LAID: no walk: one application.) -/
theorem Tryz.slices_Compact_string_empty (a : Option Addr) (cap : Nat) (w : World) :
  Calls Tryz.prog 162 #[.slice a 0 cap] w fun e w' => e = .returned (.slice a 0 cap) ∧ w' = w := Any.slices_Compact_string_empty Tryz.lays194 a cap w
end Go.Proofs
end
section
namespace Go.Abs
open Go Go.Proofs
theorem below_Fr {lim : Nat → Nat} {w w' : World} (h : RowKit.Below w.heap.size w w') : Fr (fun _ => False) lim w lim w' :=
 ⟨h.os, h.tape, h.output, h.size, fun b hb => ⟨Nat.le_refl _, fun _o _ => World.cell?_of_block (w := w) (h.block b hb)⟩, fun b hb _ => ⟨h.block b hb, rfl⟩⟩
/-- A contract over pure values from a contract of the kit's that turns nothing of what was there. -/
theorem spec_of_below {P : Program} {G : Glob} {f : FuncId} {fn : Func} {c : Code} {args : List PV} {p : PV} (hf : P.funcs[f]? = some fn) (hb : fn.body = some c) (hname : (fn.name == "runtime.NumGoroutine") = false)
  (h : ∀ (H : Nat → Option Value) (lim : Nat → Nat) (w : World) (vs : List Value), (∀ i, H i = none) → GlobOk G H lim w → Vs H lim w args vs →
   Calls P f vs.toArray w fun e w' => (∃ v, e = .returned v ∧ ∀ lim', Fr (fun _ => False) lim w lim' w' → V H lim' w' p v) ∧ RowKit.Below w.heap.size w w') : Spec P G f args [] (.ret p) [] := by
 refine ⟨fun av w => ?_, Nat.le_refl _, fun H lim w vs hrows hglob hvs => ?_⟩
 ·have hne : ¬ fn.name = "runtime.NumGoroutine" := by simpa using hname
  simp [callFunc, hf, hne, hb, program, Sem.run]
 have hn : ∀ i, H i = none := fun i => hrows.dom i (Nat.zero_le _); refine Calls.mono (h H lim w vs hn hglob hvs) ?_; intro e w' ⟨⟨v, he, hv⟩, hbl⟩; exact ⟨H, lim, ⟨fun id r q => (by simp at q), fun i j b _ q => (by simp [bl, hn] at q), fun id _ => hn id⟩, (below_Fr hbl).weaken fun _ q => q.elim, fun _ _ _ _ => rfl, fun b q => .inl q, v, he, hv lim (below_Fr hbl)⟩
theorem bytesWorld_below (w : World) (e : TypeId) (s : ByteArray) : RowKit.Below w.heap.size w (Lib.bytesWorld w e s) :=
 ⟨rfl, rfl, rfl, by rw [Lib.bytesWorld_size]; omega, fun j hj => Lib.bytesWorld_at_old w e s j hj⟩
/-- What Atoi tells: the number, and is there an error? -/
def atoiF (w : ByteArray) : PV := match Lib.atoiAll w.data.toList with
 | .ok v => .tup [.d (num v), .d (.s .nilIface)]
 | .range => .tup [.d (num (Lib.atoiSat w.data.toList)), .ifc 391 .any]
 | _ => .tup [.d (num 0), .ifc 391 .any]
theorem glob_cell {G : Glob} {H : Nat → Option Value} {lim : Nat → Nat} {w : World} (h : GlobOk G H lim w) {g : Nat} {v : Value} (hg : G g = some v) (h9 : Nat.ble g 999 = true := by rfl) (hv : oneV v = true := by rfl) : w.cell? ⟨g, 0, none⟩ = some v := ((h.holds g v h9 hg).one hv).1
theorem atoi_spec (t : Nat → TypeId) (u : Nat → Value) (w : ByteArray) (hw : w.size ≤ 281474976710656) : Spec Tryz.prog (GV t u) 196 [.d (str w)] [] (.ret (atoiF w)) [] := by
 refine spec_of_below Tryz.func196 rfl (by rfl) ?_; intro H lim W vs hn hglob hvs; simp only [Vs, V, str, VD] at hvs; obtain ⟨_, _, rfl, rfl, rfl⟩ := hvs
 unfold atoiF
 cases h : Lib.atoiAll w.data.toList with
 | ok v =>
  refine (Tryz.strconv_Atoi_ok w (by omega) v h W).mono ?_; rintro e w' ⟨rfl, hw'⟩; refine ⟨⟨_, rfl, fun lim' _ => ?_⟩, ?_⟩
  ·simp only [V, Vs, VD, num]
   exact ⟨[.int .i64 v, .nilIface], rfl, _, _, rfl, rfl, _, _, rfl, rfl, rfl⟩
  rcases hw' with rfl | ⟨_, rfl⟩
  ·exact RowKit.Below.refl _ _
  exact bytesWorld_below _ _ _
 | range =>
  refine (Tryz.strconv_Atoi_range w hw h _ W (glob_cell hglob (show GV t u 12 = some (.iface (t 12) (u 12)) from rfl)) (Or.inr ⟨_, _, rfl⟩)).mono ?_; rintro e w' ⟨N, rfl, _, _, hb⟩; refine ⟨⟨_, rfl, fun lim' _ => ?_⟩, hb⟩; simp only [V, Vs, VD, num]; exact ⟨[.int .i64 _, .iface 391 (.pointer (some ⟨N, 0, none⟩))], rfl, _, _, rfl, rfl, _, _, rfl, ⟨_, rfl, trivial⟩, rfl⟩
 | _ =>
  refine (Tryz.strconv_Atoi_syntax w hw h _ W (glob_cell hglob (show GV t u 11 = some (.iface (t 11) (u 11)) from rfl)) (Or.inr ⟨_, _, rfl⟩)).mono ?_; rintro e w' ⟨N, rfl, _, _, hb⟩; refine ⟨⟨_, rfl, fun lim' _ => ?_⟩, hb⟩; simp only [V, Vs, VD, num]; exact ⟨[.int .i64 0, .iface 391 (.pointer (some ⟨N, 0, none⟩))], rfl, _, _, rfl, rfl, _, _, rfl, ⟨_, rfl, trivial⟩, rfl⟩
theorem repeat_spec (G : Glob) (s : ByteArray) (c : Nat) (hc : s.size * c ≤ 140737488355328) (h63 : c ≤ 9223372036854775807) : Spec Tryz.prog G 149 [.d (str s), .d (num c)] [] (.ret (.d (str ⟨(Lib.repeatL s.data.toList c).toArray⟩))) [] := by
 refine spec_of_below Tryz.func149 rfl (by rfl) ?_; intro H lim W vs hn hglob hvs; simp only [Vs, V, str, num, VD] at hvs; obtain ⟨_, _, rfl, rfl, _, _, rfl, rfl, rfl⟩ := hvs; refine (Tryz.strings_Repeat s c W h63 hc).mono ?_; rintro e w' ⟨rfl, hb⟩; exact ⟨⟨_, rfl, fun lim' _ => by simp only [V, str, VD]⟩, hb⟩
end Go.Abs
end
section
namespace Go.Abs
open Go Go.Proofs
attribute [local irreducible] aCall AWp Sub Spec
/-- Terms. -/
inductive Ex where
 | mk (op : ByteArray) (n : Int) (name : ByteArray) (l : List Ex)
mutual
def Ex.cs : Ex → List Data
 | .mk op n name l => [str op, num n, str name, .sl 4 (exs l)]
def exs : List Ex → List (List Data)
 | [] => []
 | e :: r => e.cs :: exs r
end
/-- Tests, statements, programs. -/
structure Ts where
 a : Ex
 rel : ByteArray
 b : Ex
def Ts.cs (t : Ts) : List Data := t.a.cs ++ (str t.rel :: t.b.cs)
def tss (l : List Ts) : List (List Data) := l.map Ts.cs
def cnd (c : List (List Ts)) : List (List Data) := c.map fun r => [.sl 9 (tss r)]
inductive Sm where
 | mk (kind name proc : ByteArray) (args : List Ex) (cond : List (List Ts)) (body els : List Sm)
mutual
def Sm.cs : Sm → List Data
 | .mk kind name proc args cond body els => [str kind, str name, str proc, .sl 4 (exs args), .sl 1 (cnd cond), .sl 7 (sms body), .sl 7 (sms els)]
def sms : List Sm → List (List Data)
 | [] => []
 | e :: r => e.cs :: sms r
end
structure Ar where
 name : ByteArray
 size : Int
def Ar.cs (a : Ar) : List Data := [str a.name, num a.size]
structure Pc where
 name : ByteArray
 params : List ByteArray
 body : List Sm
 ret : Ex
def Pc.cs (p : Pc) : List Data := [str p.name, .sl 1 (strs p.params), .sl 7 (sms p.body)] ++ p.ret.cs
structure Pg where
 vars : List ByteArray
 arrays : List Ar
 procs : List Pc
 main : List Sm
def Pg.cs (p : Pg) : List Data := [.sl 1 (strs p.vars), .sl 2 (p.arrays.map Ar.cs), .sl 7 (p.procs.map Pc.cs), .sl 7 (sms p.main)]

/-- Where the reader stands: at a word of the text. -/
structure PS (s : ByteArray) where
 i : Nat
 w : ByteArray
 ok : i + w.size ≤ s.size
/-- What reading comes to: it is read; a fault; no answer within so many steps. -/
inductive R (s : ByteArray) (α : Type) where
 | ok (a : α) (p : PS s)
 | bad (p : PS s) (c : Nat)
 | out
def R.bind {s : ByteArray} {α β : Type} (r : R s α) (f : α → PS s → R s β) : R s β := match r with
 | .ok a p => f a p
 | .bad p c => .bad p c
 | .out => .out
def rd (s : ByteArray) (p : PS s) : Row := rdr 132 s p.i p.w
theorem spaceF_le (s : ByteArray) : ∀ (n i : Nat), i ≤ s.size → i ≤ spaceF s n i ∧ spaceF s n i ≤ s.size
 | 0, i, h => ⟨Nat.le_refl _, h⟩
 | n + 1, i, h => by
  simp only [spaceF]
  split
  ·rename_i hd
   have := of_decide_eq_true hd
   split
   ·have := spaceF_le s n (i + 1) (by omega)
    exact ⟨by omega, this.2⟩
   exact ⟨Nat.le_refl _, h⟩
  exact ⟨Nat.le_refl _, h⟩
/-- The next word. -/
def nx (s : ByteArray) (p : PS s) : PS s where
 i := spaceF s (s.size - (p.i + p.w.size)) (p.i + p.w.size)
 w := (s.extract (spaceF s (s.size - (p.i + p.w.size)) (p.i + p.w.size)) s.size).extract 0 (wordLen (s.extract (spaceF s (s.size - (p.i + p.w.size)) (p.i + p.w.size)) s.size))
 ok := by
  have := spaceF_le s (s.size - (p.i + p.w.size)) _ p.ok; simp only [ByteArray.size_extract]; omega
def eqW (w x : ByteArray) : Bool := w.toList == x.toList
theorem eqW_eq {w x : ByteArray} (h : (w.toList == x.toList) = true) : w = x := (MapKept.bytes_beq w x).1 (by rw [beq_toListBytes]; exact h)
def takeF (s x : ByteArray) (p : PS s) : R s Unit := match eqW p.w x with
 | true => .ok () (nx s p)
 | false => .bad p 3
def nameF (s : ByteArray) (p : PS s) : R s ByteArray := match isNameF p.w with
 | true => .ok p.w (nx s p)
 | false => .bad p 3
/-- The number that a word is. -/
def numBad (w : ByteArray) (n : Int) (err : Bool) : Bool := (eqW w ⟨#[]⟩ || !isD (byteAt w 0)) || (decide ((w.size : Int) > 1) && (byteAt w 0 == 48)) || err || decide (n > 1099511627776)
def numV (w : ByteArray) : Option Int := match Lib.atoiAll w.data.toList with
 | .ok v => match numBad w v false with
  | true => none
  | false => some v
 | _ => none
def numberF (s : ByteArray) (p : PS s) : R s Int := match numV p.w with
 | some n => .ok n (nx s p)
 | none => .bad p 3
def deepF (s : ByteArray) (d : Int) (p : PS s) : R s Int := match decide (d ≥ 12) with
 | true => .bad p 0
 | false => .ok (IntKind.i64.wrap (d + 1)) p
section
variable (t : Nat → TypeId) (u : Nat → Value)
def outR {s : ByteArray} {α : Type} (enc : α → PV) : R s α → Out
 | .ok a _ => .ret (enc a)
 | .bad _ _ => .pan (.ifc 128 (.box 1 0))
 | .out => .ret (.tup [])
def rowsR {s : ByteArray} {α : Type} : R s α → List Row
 | .ok _ p => [rd s p]
 | .bad p c => [rd s p, flt p.i (t c) (u c)]
 | .out => []
/-- The contract of a function of the reader. -/
def PSpec {α : Type} (f : FuncId) (args : List PV) (s : ByteArray) (p : PS s) (enc : α → PV) (r : R s α) : Prop :=
 r ≠ .out → Spec Tryz.prog (GV t u) f args [rd s p] (outR enc r) (rowsR t u r)
end
def encU : Unit → PV := fun _ => .tup []
def encS : ByteArray → PV := fun w => .d (str w)
def encI : Int → PV := fun n => .d (num n)
def encE : Ex → PV := fun e => .d (.agg e.cs)
theorem nextP_spec (G : Glob) (s : ByteArray) (p : PS s) (hs : s.size < 4611686018427387904) : Spec Tryz.prog G 55 [.box 0 0] [rd s p] (.ret (.tup [])) [rd s (nx s p)] := next_spec G 132 s p.w p.i hs p.ok
section
variable (t : Nat → TypeId) (u : Nat → Value)
theorem takeP_spec (s x : ByteArray) (p : PS s) (hs : s.size < 4611686018427387904) : PSpec t u 136 [.box 0 0, .d (str x)] s p encU (takeF s x p) := by
 intro _
 unfold takeF eqW
 cases h : (p.w.toList == x.toList) with
 | true =>
  have e : p.w = x := eqW_eq h; subst e; exact take_ok (GV t u) 132 s p.w p.i hs p.ok
 | false => exact take_bad t u 132 s p.w x p.i h
end
end Go.Abs
end
section
namespace Go.Abs
open Go Go.Proofs
attribute [local irreducible] aCall AWp Sub Spec
section
variable (t : Nat → TypeId) (u : Nat → Value)
theorem deepP_spec (s : ByteArray) (p : PS s) (d : Int) : PSpec t u 277 [.box 0 0, .d (num d)] s p encI (deepF s d p) := by
 intro hne; obtain ⟨r, hG⟩ : ∃ r, deepF s d p = r := ⟨_, rfl⟩; rw [hG] at hne ⊢
 refine spec_of_awp2 TT_ok (N := 12) Tryz.func277 rfl (by rfl) ((by cases r <;> simp [rowsR] at hne ⊢)) rfl ?_
 refine rgs fun E K J O => ?_; refine O _ (aN [0, 1] rfl rfl ?_); clear O J K E; refine awp_seq ?_; refine rgs fun E K J O => ?_; refine O _ (aN [0, 1, 6] rfl rfl ?_); clear O J K E; refine awp_cond2 rfl (onB_intro (fun h1 => ?_) (fun h1 => ?_))
 ·refine rgn fun E K J O => ?_; show aCall _ _ _ _ _ _ _
  refine aP [0] rfl rfl rfl (fail_spec (GV t u) 132 s _ _ (t 0) (u 0)) rfl rfl rfl rfl ?_; refine J _ _ ?_; simp only [deepF, h1] at hG; subst hG; exact ⟨[0, 1], _, rfl, rfl, rfl, rfl, rfl⟩
 refine awp_skip ?_; refine rgs fun E K J O => ?_; refine O _ (aN [4] rfl rfl ?_); clear O J K E; refine awp_ret ?_; simp only [deepF, h1] at hG; subst hG; exact ⟨_, [0], _, [encI _], rfl, rfl, rfl, rfl, rfl, (by first | exact PWs.refl _ | (refine PWs.cons (PW.d ?_) PWs.nil; repeat (first | exact DW.refl _ | refine DW.agg ?_ | refine DWs.cons ?_ ?_ | exact DWs.nil | exact DW.nil _))), rfl⟩
theorem nameP_spec (s : ByteArray) (p : PS s) (hs : s.size < 4611686018427387904) : PSpec t u 135 [.box 0 0] s p encS (nameF s p) := by
 intro hne; obtain ⟨r, hG⟩ : ∃ r, nameF s p = r := ⟨_, rfl⟩; rw [hG] at hne ⊢
 refine spec_of_awp2 TT_ok (N := 17) Tryz.func135 rfl (by rfl) ((by cases r <;> simp [rowsR] at hne ⊢)) rfl ?_
 refine rgs fun E K J O => ?_; refine O _ (aN [0] rfl rfl ?_); clear O J K E; refine rgs fun E K J O => ?_; refine O _ (aN [0, 3] rfl rfl ?_); clear O J K E; refine awp_seq ?_; refine rgs fun E K J O => ?_; show aCall _ _ _ _ _ _ _; refine aR [] rfl rfl rfl (isName_spec _ p.w (by have := p.ok; omega)) rfl rfl rfl rfl ?_; refine O _ (aN [0, 3, 10] rfl rfl ?_); clear O J K E; refine awp_cond2 rfl (onB_intro (fun h1 => ?_) (fun h1 => ?_))
 ·have h1 := Bool.not_eq_true' _ ▸ h1
  refine rgn fun E K J O => ?_; show aCall _ _ _ _ _ _ _; refine aP [0] rfl rfl rfl (fail_spec (GV t u) 132 s _ _ (t 3) (u 3)) rfl rfl rfl rfl ?_; refine J _ _ ?_; simp only [nameF, h1] at hG; subst hG; exact ⟨[0, 1], _, rfl, rfl, rfl, rfl, rfl⟩
 have h1 := Bool.not_eq_false' _ ▸ h1; refine awp_skip ?_; refine rgs fun E K J O => ?_; show aCall _ _ _ _ _ _ _; refine aR [0] rfl rfl rfl (nextP_spec _ s p hs) rfl rfl rfl rfl ?_; refine O _ (aN [3] rfl rfl ?_); clear O J K E; refine rgs fun E K J O => ?_; refine O _ (aN [2] rfl rfl ?_); clear O J K E; refine awp_ret ?_; simp only [nameF, h1] at hG; subst hG; exact ⟨_, [0], _, [encS _], rfl, rfl, rfl, rfl, rfl, (by first | exact PWs.refl _ | (refine PWs.cons (PW.d ?_) PWs.nil; repeat (first | exact DW.refl _ | refine DW.agg ?_ | refine DWs.cons ?_ ?_ | exact DWs.nil | exact DW.nil _))), rfl⟩
theorem hasP_yes (G : Glob) (s x : ByteArray) (p : PS s) (hs : s.size < 4611686018427387904) (h : eqW p.w x = true) : Spec Tryz.prog G 134 [.box 0 0, .d (str x)] [rd s p] (.ret (.d (.s (.bool true)))) [rd s (nx s p)] := by
 have e : p.w = x := eqW_eq h; subst e; exact has_yes G 132 s p.w p.i hs p.ok
theorem hasP_no (G : Glob) (s x : ByteArray) (p : PS s) (h : eqW p.w x = false) : Spec Tryz.prog G 134 [.box 0 0, .d (str x)] [rd s p] (.ret (.d (.s (.bool false)))) [rd s p] := has_no G 132 s p.w x p.i h
theorem size_pos {w : ByteArray} (h : (w.toList == (⟨#[]⟩ : ByteArray).toList) = false) : 0 < w.size := by
 rcases Nat.eq_zero_or_pos w.size with h0 | h0
 ·have : w = ⟨#[]⟩ := ByteArray.size_eq_zero_iff.1 h0
  rw [this] at h
  simp at h
 exact h0
theorem numberP_ok (s : ByteArray) (p : PS s) (hs : s.size ≤ 4000) (v : Int) (ha : Lib.atoiAll p.w.data.toList = .ok v) : PSpec t u 137 [.box 0 0] s p encI (numberF s p) := by
 intro hne; obtain ⟨r, hG⟩ : ∃ r, numberF s p = r := ⟨_, rfl⟩; rw [hG] at hne ⊢
 refine spec_of_awp2 TT_ok (N := 57) Tryz.func137 rfl (by rfl) ((by cases r <;> simp [rowsR] at hne ⊢)) rfl ?_
 refine rgs fun E K J O => ?_; refine O _ (aN [0] rfl rfl ?_); clear O J K E; refine rgs fun E K J O => ?_; show aCall _ _ _ _ _ _ _; refine aR [] rfl rfl rfl (show Spec _ _ _ _ _ (.ret (.tup [.d (num v), .d (.s .nilIface)])) _ from by have := atoi_spec t u p.w (by have := p.ok; omega); unfold atoiF at this; rw [ha] at this; exact this) rfl rfl rfl rfl ?_; refine O _ (aN [0, 3, 4] rfl rfl ?_); clear O J K E; refine awp_seq ?_; refine rgs fun E K J O => ?_; refine onB_intro (fun h1 => ?_) (fun h1 => ?_)
 ·refine O _ (aN [0, 3, 50] rfl rfl ?_); clear O J K E; refine awp_cond rfl ?_; refine rgn fun E K J O => ?_; show aCall _ _ _ _ _ _ _
  refine aP [0] rfl rfl rfl (fail_spec (GV t u) 132 s _ _ (t 3) (u 3)) rfl rfl rfl rfl ?_; refine J _ _ ?_; simp only [numberF, numV, numBad, ha, eqW, isD, bz, h1] at hG; subst hG; exact ⟨[0, 1], _, rfl, rfl, rfl, rfl, rfl⟩
 have hpos := size_pos h1; refine And.intro (by omega) (And.intro (by omega) ?_)
 show aCall _ _ _ _ _ _ _
 refine aR [] rfl rfl rfl (digit_spec _ _) rfl rfl rfl rfl ?_; refine onB_intro (fun h2 => ?_) (fun h2 => ?_)
 ·refine O _ (aN [0, 3, 50] rfl rfl ?_); clear O J K E; refine awp_cond rfl ?_; refine rgn fun E K J O => ?_; show aCall _ _ _ _ _ _ _
  refine aP [0] rfl rfl rfl (fail_spec (GV t u) 132 s _ _ (t 3) (u 3)) rfl rfl rfl rfl ?_; refine J _ _ ?_; simp only [numberF, numV, numBad, ha, eqW, isD, bz, h1, h2] at hG; subst hG; exact ⟨[0, 1], _, rfl, rfl, rfl, rfl, rfl⟩
 refine onB_intro (fun h3 => ?_) (fun h3 => ?_)
 ·refine And.intro (by omega) (And.intro (by omega) ?_)
  refine onB_intro (fun h4 => ?_) (fun h4 => ?_)
  ·refine O _ (aN [0, 3, 50] rfl rfl ?_); clear O J K E; refine awp_cond rfl ?_; refine rgn fun E K J O => ?_; show aCall _ _ _ _ _ _ _
   refine aP [0] rfl rfl rfl (fail_spec (GV t u) 132 s _ _ (t 3) (u 3)) rfl rfl rfl rfl ?_; refine J _ _ ?_; simp only [numberF, numV, numBad, ha, eqW, isD, bz, h1, h2, h3, h4] at hG; subst hG; exact ⟨[0, 1], _, rfl, rfl, rfl, rfl, rfl⟩
  refine O _ (aN [0, 3, 50] rfl rfl ?_); clear O J K E; refine awp_cond2 rfl (onB_intro (fun h5 => ?_) (fun h5 => ?_))
  ·refine rgn fun E K J O => ?_; show aCall _ _ _ _ _ _ _
   refine aP [0] rfl rfl rfl (fail_spec (GV t u) 132 s _ _ (t 3) (u 3)) rfl rfl rfl rfl ?_; refine J _ _ ?_; simp only [numberF, numV, numBad, ha, eqW, isD, bz, h1, h2, h3, h4, h5] at hG; subst hG; exact ⟨[0, 1], _, rfl, rfl, rfl, rfl, rfl⟩
  refine awp_skip ?_; refine rgs fun E K J O => ?_; show aCall _ _ _ _ _ _ _
  have hs : s.size < 4611686018427387904 := by omega
  refine aR [0] rfl rfl rfl (nextP_spec _ s p hs) rfl rfl rfl rfl ?_; refine O _ (aN [3] rfl rfl ?_); clear O J K E; refine rgs fun E K J O => ?_; refine O _ (aN [2] rfl rfl ?_); clear O J K E; refine awp_ret ?_; simp only [numberF, numV, numBad, ha, eqW, isD, bz, h1, h2, h3, h4, h5] at hG; subst hG; exact ⟨_, [0], _, [encI _], rfl, rfl, rfl, rfl, rfl, (by first | exact PWs.refl _ | (refine PWs.cons (PW.d ?_) PWs.nil; repeat (first | exact DW.refl _ | refine DW.agg ?_ | refine DWs.cons ?_ ?_ | exact DWs.nil | exact DW.nil _))), rfl⟩
 refine O _ (aN [0, 3, 50] rfl rfl ?_); clear O J K E; refine awp_cond2 rfl (onB_intro (fun h4 => ?_) (fun h4 => ?_))
 ·refine rgn fun E K J O => ?_; show aCall _ _ _ _ _ _ _
  refine aP [0] rfl rfl rfl (fail_spec (GV t u) 132 s _ _ (t 3) (u 3)) rfl rfl rfl rfl ?_; refine J _ _ ?_; simp only [numberF, numV, numBad, ha, eqW, isD, bz, h1, h2, h3, h4] at hG; subst hG; exact ⟨[0, 1], _, rfl, rfl, rfl, rfl, rfl⟩
 refine awp_skip ?_; refine rgs fun E K J O => ?_; show aCall _ _ _ _ _ _ _
 have hs : s.size < 4611686018427387904 := by omega
 refine aR [0] rfl rfl rfl (nextP_spec _ s p hs) rfl rfl rfl rfl ?_; refine O _ (aN [3] rfl rfl ?_); clear O J K E; refine rgs fun E K J O => ?_; refine O _ (aN [2] rfl rfl ?_); clear O J K E; refine awp_ret ?_; simp only [numberF, numV, numBad, ha, eqW, isD, bz, h1, h2, h3, h4] at hG; subst hG; exact ⟨_, [0], _, [encI _], rfl, rfl, rfl, rfl, rfl, (by first | exact PWs.refl _ | (refine PWs.cons (PW.d ?_) PWs.nil; repeat (first | exact DW.refl _ | refine DW.agg ?_ | refine DWs.cons ?_ ?_ | exact DWs.nil | exact DW.nil _))), rfl⟩
theorem numberP_syn (s : ByteArray) (p : PS s) (hs : s.size ≤ 4000) (ha : Lib.atoiAll p.w.data.toList = Lib.atoiAll []) : PSpec t u 137 [.box 0 0] s p encI (numberF s p) := by
 cases hz : Lib.atoiAll p.w.data.toList with
 | ok v => rw [hz] at ha; cases ha
 | range => rw [hz] at ha; cases ha
 | _ =>
  rw [hz] at ha; have ha := hz; intro hne; obtain ⟨r, hG⟩ : ∃ r, numberF s p = r := ⟨_, rfl⟩; rw [hG] at hne ⊢
  refine spec_of_awp2 TT_ok (N := 57) Tryz.func137 rfl (by rfl) ((by cases r <;> simp [rowsR] at hne ⊢)) rfl ?_
  refine rgs fun E K J O => ?_; refine O _ (aN [0] rfl rfl ?_); clear O J K E; refine rgs fun E K J O => ?_; show aCall _ _ _ _ _ _ _; refine aR [] rfl rfl rfl (show Spec _ _ _ _ _ (.ret (.tup [.d (num 0), .ifc 391 .any])) _ from by have := atoi_spec t u p.w (by have := p.ok; omega); unfold atoiF at this; rw [ha] at this; exact this) rfl rfl rfl rfl ?_; refine O _ (aN [0, 3, 4] rfl rfl ?_); clear O J K E; refine awp_seq ?_; refine rgs fun E K J O => ?_; refine onB_intro (fun h1 => ?_) (fun h1 => ?_)
  ·refine O _ (aN [0, 3, 50] rfl rfl ?_); clear O J K E; refine awp_cond rfl ?_; refine rgn fun E K J O => ?_; show aCall _ _ _ _ _ _ _
   refine aP [0] rfl rfl rfl (fail_spec (GV t u) 132 s _ _ (t 3) (u 3)) rfl rfl rfl rfl ?_; refine J _ _ ?_; simp only [numberF, numV, ha] at hG; subst hG; exact ⟨[0, 1], _, rfl, rfl, rfl, rfl, rfl⟩
  have hpos := size_pos h1; refine And.intro (by omega) (And.intro (by omega) ?_)
  show aCall _ _ _ _ _ _ _
  refine aR [] rfl rfl rfl (digit_spec _ _) rfl rfl rfl rfl ?_; refine onB_intro (fun h2 => ?_) (fun h2 => ?_)
  ·refine O _ (aN [0, 3, 50] rfl rfl ?_); clear O J K E; refine awp_cond rfl ?_; refine rgn fun E K J O => ?_; show aCall _ _ _ _ _ _ _
   refine aP [0] rfl rfl rfl (fail_spec (GV t u) 132 s _ _ (t 3) (u 3)) rfl rfl rfl rfl ?_; refine J _ _ ?_; simp only [numberF, numV, ha] at hG; subst hG; exact ⟨[0, 1], _, rfl, rfl, rfl, rfl, rfl⟩
  refine onB_intro (fun h3 => ?_) (fun h3 => ?_)
  ·refine And.intro (by omega) (And.intro (by omega) ?_)
   refine onB_intro (fun h4 => ?_) (fun h4 => ?_)
   ·refine O _ (aN [0, 3, 50] rfl rfl ?_); clear O J K E; refine awp_cond rfl ?_; refine rgn fun E K J O => ?_; show aCall _ _ _ _ _ _ _
    refine aP [0] rfl rfl rfl (fail_spec (GV t u) 132 s _ _ (t 3) (u 3)) rfl rfl rfl rfl ?_; refine J _ _ ?_; simp only [numberF, numV, ha] at hG; subst hG; exact ⟨[0, 1], _, rfl, rfl, rfl, rfl, rfl⟩
   refine O _ (aN [0, 3, 50] rfl rfl ?_); clear O J K E; refine awp_cond rfl ?_; refine rgn fun E K J O => ?_; show aCall _ _ _ _ _ _ _; refine aP [0] rfl rfl rfl (fail_spec (GV t u) 132 s _ _ (t 3) (u 3)) rfl rfl rfl rfl ?_; refine J _ _ ?_; simp only [numberF, numV, ha] at hG; subst hG; exact ⟨[0, 1], _, rfl, rfl, rfl, rfl, rfl⟩
  refine O _ (aN [0, 3, 50] rfl rfl ?_); clear O J K E; refine awp_cond rfl ?_; refine rgn fun E K J O => ?_; show aCall _ _ _ _ _ _ _; refine aP [0] rfl rfl rfl (fail_spec (GV t u) 132 s _ _ (t 3) (u 3)) rfl rfl rfl rfl ?_; refine J _ _ ?_; simp only [numberF, numV, ha] at hG; subst hG; exact ⟨[0, 1], _, rfl, rfl, rfl, rfl, rfl⟩
theorem numberP_rng (s : ByteArray) (p : PS s) (hs : s.size ≤ 4000) (ha : Lib.atoiAll p.w.data.toList = .range) : PSpec t u 137 [.box 0 0] s p encI (numberF s p) := by
 intro hne; obtain ⟨r, hG⟩ : ∃ r, numberF s p = r := ⟨_, rfl⟩; rw [hG] at hne ⊢
 refine spec_of_awp2 TT_ok (N := 57) Tryz.func137 rfl (by rfl) ((by cases r <;> simp [rowsR] at hne ⊢)) rfl ?_
 refine rgs fun E K J O => ?_; refine O _ (aN [0] rfl rfl ?_); clear O J K E; refine rgs fun E K J O => ?_; show aCall _ _ _ _ _ _ _; refine aR [] rfl rfl rfl (show Spec _ _ _ _ _ (.ret (.tup [.d (num (Lib.atoiSat p.w.data.toList)), .ifc 391 .any])) _ from by have := atoi_spec t u p.w (by have := p.ok; omega); unfold atoiF at this; rw [ha] at this; exact this) rfl rfl rfl rfl ?_; refine O _ (aN [0, 3, 4] rfl rfl ?_); clear O J K E; refine awp_seq ?_; refine rgs fun E K J O => ?_; refine onB_intro (fun h1 => ?_) (fun h1 => ?_)
 ·refine O _ (aN [0, 3, 50] rfl rfl ?_); clear O J K E; refine awp_cond rfl ?_; refine rgn fun E K J O => ?_; show aCall _ _ _ _ _ _ _
  refine aP [0] rfl rfl rfl (fail_spec (GV t u) 132 s _ _ (t 3) (u 3)) rfl rfl rfl rfl ?_; refine J _ _ ?_; simp only [numberF, numV, ha] at hG; subst hG; exact ⟨[0, 1], _, rfl, rfl, rfl, rfl, rfl⟩
 have hpos := size_pos h1; refine And.intro (by omega) (And.intro (by omega) ?_)
 show aCall _ _ _ _ _ _ _
 refine aR [] rfl rfl rfl (digit_spec _ _) rfl rfl rfl rfl ?_; refine onB_intro (fun h2 => ?_) (fun h2 => ?_)
 ·refine O _ (aN [0, 3, 50] rfl rfl ?_); clear O J K E; refine awp_cond rfl ?_; refine rgn fun E K J O => ?_; show aCall _ _ _ _ _ _ _
  refine aP [0] rfl rfl rfl (fail_spec (GV t u) 132 s _ _ (t 3) (u 3)) rfl rfl rfl rfl ?_; refine J _ _ ?_; simp only [numberF, numV, ha] at hG; subst hG; exact ⟨[0, 1], _, rfl, rfl, rfl, rfl, rfl⟩
 refine onB_intro (fun h3 => ?_) (fun h3 => ?_)
 ·refine And.intro (by omega) (And.intro (by omega) ?_)
  refine onB_intro (fun h4 => ?_) (fun h4 => ?_)
  ·refine O _ (aN [0, 3, 50] rfl rfl ?_); clear O J K E; refine awp_cond rfl ?_; refine rgn fun E K J O => ?_; show aCall _ _ _ _ _ _ _
   refine aP [0] rfl rfl rfl (fail_spec (GV t u) 132 s _ _ (t 3) (u 3)) rfl rfl rfl rfl ?_; refine J _ _ ?_; simp only [numberF, numV, ha] at hG; subst hG; exact ⟨[0, 1], _, rfl, rfl, rfl, rfl, rfl⟩
  refine O _ (aN [0, 3, 50] rfl rfl ?_); clear O J K E; refine awp_cond rfl ?_; refine rgn fun E K J O => ?_; show aCall _ _ _ _ _ _ _; refine aP [0] rfl rfl rfl (fail_spec (GV t u) 132 s _ _ (t 3) (u 3)) rfl rfl rfl rfl ?_; refine J _ _ ?_; simp only [numberF, numV, ha] at hG; subst hG; exact ⟨[0, 1], _, rfl, rfl, rfl, rfl, rfl⟩
 refine O _ (aN [0, 3, 50] rfl rfl ?_); clear O J K E; refine awp_cond rfl ?_; refine rgn fun E K J O => ?_; show aCall _ _ _ _ _ _ _; refine aP [0] rfl rfl rfl (fail_spec (GV t u) 132 s _ _ (t 3) (u 3)) rfl rfl rfl rfl ?_; refine J _ _ ?_; simp only [numberF, numV, ha] at hG; subst hG; exact ⟨[0, 1], _, rfl, rfl, rfl, rfl, rfl⟩
theorem numberP_spec (s : ByteArray) (p : PS s) (hs : s.size ≤ 4000) : PSpec t u 137 [.box 0 0] s p encI (numberF s p) := by
 cases ha : Lib.atoiAll p.w.data.toList with
 | ok v => exact numberP_ok t u s p hs v ha
 | range => exact numberP_rng t u s p hs ha
 | _ => exact numberP_syn t u s p hs ha
end
end Go.Abs
end
