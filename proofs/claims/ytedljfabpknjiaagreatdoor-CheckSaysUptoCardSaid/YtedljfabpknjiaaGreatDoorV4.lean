/- Texts of this proof, joined: AbsO, AbsP, AbsQ, AbsT, AbsS, AbsR, AbsU, AbsV. -/
import Derived.Test.YtedljfabpknjiaaGreatDoorV3
import Derived.Test.YtedljfabpknjiaaGreatDoorProg
import Derived.OrdersHeld
import Derived.Deep.RegionHeld3
import Derived.Laws.BitsLemmas
import Derived.RowKit
section
namespace Go.Abs
open Go

def idx : List Nat → Nat → Option Nat
 | [], _ => none
 | x :: r, id => match Nat.beq x id with
  | true => some 0
  | false => match idx r id with
   | some j => some (j + 1)
   | none => none
def nodupB : List Nat → Bool
 | [] => true
 | x :: r => match idx r x with
  | some _ => false
  | none => nodupB r
/-- Names, as the rows of L alone know them. -/
def sIn (L : List Nat) (rows : List Row) : Nat → Sb := fun id => match idx L id with
 | some j => .to j
 | none => match rows[id]? with
  | some (.acc _ k xs) => .data (.sl k xs)
  | _ => .no
def pickRows (σ : Nat → Sb) (rows : List Row) : List Nat → Option (List Row)
 | [] => some []
 | id :: L => match rows[id]? with
  | some r => match demRow σ r with
   | some q => match pickRows σ rows L with
    | some qs => some (q :: qs)
    | none => none
   | none => none
  | none => none
def pickEnv (env : List (Nat × PV)) : List Nat → Option (List (Nat × PV))
 | [] => some []
 | s :: r => match look env s with
  | some p => match pickEnv env r with
   | some e => some ((s, p) :: e)
   | none => none
  | none => none
def HL (L : List Nat) (H : Nat → Option Value) : Nat → Option Value := fun j => (L[j]?).bind H

/-- Names behind a call. -/
def sOut (L : List Nat) (n : Nat) : Nat → Sb := fun j => match L[j]? with
 | some id => .to id
 | none => .to (n + (j - L.length))
def sKeep (L : List Nat) (rows : List Row) : Nat → Sb := fun id => match idx L id with
 | some _ => match rows[id]? with
  | some (.acc _ k xs) => .data (.sl k xs)
  | some (.box ..) => .to id
  | some (.map ..) => .to id
  | some (.vec ..) => .to id
  | none => .no
 | none => .to id
def setAll : List Nat → List Row → List Row → List Row
 | id :: L, rows, r :: rs => setAll L (rows.set id r) rs
 | _, rows, _ => rows
def place (L : List Nat) (rows1 rows2 : List Row) : List Row := setAll L rows1 rows2 ++ rows2.drop L.length

theorem idx_some : ∀ {L : List Nat} {id j : Nat}, idx L id = some j → L[j]? = some id
 | [], _, _, h => by cases h
 | x :: r, id, j, h => by
  simp only [idx] at h
  split at h
  ·rename_i e; have := Nat.eq_of_beq_eq_true e; simp only [Option.some.injEq] at h; subst h this; rfl
  split at h
  ·rename_i j' hj; simp only [Option.some.injEq] at h; subst h; simpa using idx_some hj
  cases h
theorem idx_none : ∀ {L : List Nat} {id : Nat}, idx L id = none → id ∉ L
 | [], _, _, q => by cases q
 | x :: r, id, h, q => by
  simp only [idx] at h
  split at h
  ·cases h
  rename_i hb
  split at h
  ·cases h
  rename_i hn
  rcases List.mem_cons.1 q with rfl | q
  ·simp at hb
  exact idx_none hn q
theorem idx_get : ∀ {L : List Nat} {id j : Nat}, nodupB L = true → L[j]? = some id → idx L id = some j
 | [], _, _, _, h => by cases h
 | x :: r, id, j, hn, h => by
  simp only [nodupB] at hn
  split at hn
  ·cases hn
  rename_i hx
  cases j with
  | zero => simp only [List.getElem?_cons_zero, Option.some.injEq] at h; subst h; simp [idx]
  | succ j =>
   simp only [List.getElem?_cons_succ] at h
   have := idx_get hn h
   simp only [idx, this]
   split
   ·rename_i e; have := Nat.eq_of_beq_eq_true e; subst this; rw [hx] at this; cases this
   rfl
theorem pickRows_get {σ : Nat → Sb} {rows : List Row} : ∀ {L : List Nat} {qs : List Row}, pickRows σ rows L = some qs → qs.length = L.length ∧ (∀ x, x ∈ L → x < rows.length) ∧ ∀ (j : Nat) (q : Row), qs[j]? = some q → ∃ (id : Nat) (r : Row), L[j]? = some id ∧ rows[id]? = some r ∧ demRow σ r = some q
 | [], qs, h => by simp only [pickRows, Option.some.injEq] at h; subst h; exact ⟨rfl, fun _ q => (by cases q), fun j q hq => (by cases hq)⟩
 | id :: L, qs, h => by
  simp only [pickRows] at h
  split at h
  ·rename_i r hr
   split at h
   ·rename_i q hq
    split at h
    ·rename_i qs' hqs
     simp only [Option.some.injEq] at h
     subst h
     obtain ⟨h1, h2, h3⟩ := pickRows_get hqs
     refine ⟨by simp [h1], fun x hx => ?_, fun j q' hj => ?_⟩
     ·rcases List.mem_cons.1 hx with rfl | hx
      ·exact (List.getElem?_eq_some_iff.1 hr).1
      exact h2 x hx
     cases j with
     | zero => simp only [List.getElem?_cons_zero, Option.some.injEq] at hj; subst hj; exact ⟨id, r, rfl, hr, hq⟩
     | succ j => simpa using h3 j q' (by simpa using hj)
    cases h
   cases h
  cases h
theorem pickEnv_look {env : List (Nat × PV)} {j : Nat} {p : PV} : ∀ {l : List Nat} {e : List (Nat × PV)}, pickEnv env l = some e → look e j = some p → look env j = some p
 | [], e, h, hj => by simp only [pickEnv, Option.some.injEq] at h; subst h; cases hj
 | s :: r, e, h, hj => by
  simp only [pickEnv] at h
  split at h
  ·rename_i q hq
   split at h
   ·rename_i e' he
    simp only [Option.some.injEq] at h
    subst h
    simp only [look] at hj
    split at hj
    ·rename_i hs; subst hs; rw [hq]; exact hj
    exact pickEnv_look he hj
   cases h
  cases h

section
variable {P : Program} {G : Glob} {D : List Deferred} {N B : Nat} {X : St} {H : Nat → Option Value} {lim : Nat → Nat} {a : Act} {w : World} {L : List Nat}

theorem bl_HL {j b : Nat} (h : bl (HL L H) j = some b) : ∃ id, L[j]? = some id ∧ bl H id = some b := by
 unfold bl HL at h
 cases hL : L[j]? with
 | none => rw [hL] at h; cases h
 | some id => rw [hL] at h; exact ⟨id, rfl, h⟩

theorem sIn_ok (hR : RowsOk H lim w X.rows) : (∀ id i v, sIn L X.rows id = .to i → H id = some v → HL L H i = some v) ∧ (∀ id x v, sIn L X.rows id = .data x → H id = some v → VD lim w x v) := by
 constructor
 ·intro id i v h hv
  unfold sIn at h
  split at h
  ·rename_i j hj
   simp only [Sb.to.injEq] at h
   subst h
   simp [HL, idx_some hj, hv]
  split at h <;> cases h
 intro id x v h hv
 unfold sIn at h
 split at h
 ·cases h
 split at h
 ·rename_i e k xs hr
  simp only [Sb.data.injEq] at h
  subst h
  obtain ⟨u, hu, hr'⟩ := acc_reads (hR.row id _ hr)
  rw [hv] at hu
  cases hu
  exact hr'
 cases h

theorem Bl_HL (b : Nat) (h : Bl (HL L H) b) : Bl H b := by
 obtain ⟨j, hj⟩ := h
 obtain ⟨x, _, x2⟩ := bl_HL hj
 exact ⟨x, x2⟩
theorem rows_pick (hR : RowsOk H lim w X.rows) (hn : nodupB L = true) {qs : List Row} (h : pickRows (sIn L X.rows) X.rows L = some qs) : RowsOk (HL L H) lim w qs := by
 obtain ⟨h1, h2, h3⟩ := pickRows_get h
 refine ⟨fun j q hq => ?_, fun i j b hij hi hj => ?_, fun j hj => ?_⟩
 ·obtain ⟨id, r, e1, e2, e3⟩ := h3 j q hq
  exact row_dem (Fr.refl (fun _ => False) lim w) (sIn_ok hR).1 (sIn_ok hR).2 (fun v hv => by simp [HL, e1, hv]) (fun _ _ q => q) e3 (hR.row id r e2)
 ·obtain ⟨x, x1, x2⟩ := bl_HL hi
  obtain ⟨y, y1, y2⟩ := bl_HL hj
  refine hR.apart x y b (fun e => hij ?_) x2 y2
  subst e
  have g1 := idx_get hn x1
  have g2 := idx_get hn y1
  rw [g1] at g2
  exact Option.some.inj g2
 simp [HL, List.getElem?_eq_none (show L.length ≤ j by omega)]

/-- The same, over the rows of L (the first B stay), with these slots. -/
theorem sub_pick {slots : List Nat} {env1 env2 : List (Nat × PV)} {rows2 : List Row} (h0 : L.take B = List.range B) (h1 : pickEnv X.env slots = some env1) (h2 : demEnv (sIn L X.rows) env1 = some env2)
  (h3 : pickRows (sIn L X.rows) X.rows L = some rows2) (h4 : nodupB L = true) : Sub D G N B X ⟨env2, rows2⟩ := by
 intro H lim a w hR
 refine ⟨HL L H, lim, ⟨fun j p hj => ?_, rows_pick hR.rows h4 h3, hR.glob.sub Bl_HL, hR.defers, hR.size⟩, Sub.lk (fun id hid => ?_) (fun b ⟨j, hb⟩ => ?_)⟩
 ·obtain ⟨q, q1, q2⟩ := look_demEnv h2 hj
  obtain ⟨r1, r2⟩ := hR.env j q (pickEnv_look h1 q1)
  exact ⟨r1, V.sub (Fr.refl (fun _ => False) lim w) (sIn_ok hR.rows).1 (sIn_ok hR.rows).2 _ _ _ q2 r2⟩
 ·have e : (L.take B)[id]? = some id := by rw [h0]; simp [hid]
  rw [List.getElem?_take, if_pos hid] at e
  simp [HL, e]
 obtain ⟨id, _, h⟩ := bl_HL hb
 exact ⟨id, h⟩

/-- The names behind a call. -/
def HB (L : List Nat) (n : Nat) (H H1 : Nat → Option Value) : Nat → Option Value := fun id => match idx L id with
 | some j => H1 j
 | none => if id < n then H id else H1 (L.length + (id - n))

theorem setAll_get : ∀ {L : List Nat} {rows rs : List Row} {id : Nat}, nodupB L = true → L.length ≤ rs.length → (∀ x, x ∈ L → x < rows.length) → (setAll L rows rs)[id]? = match idx L id with
  | some j => rs[j]?
  | none => rows[id]?
 | [], rows, rs, id, _, _, _ => by simp [setAll, idx]
 | x :: L, rows, [], id, _, h, _ => by simp at h
 | x :: L, rows, r :: rs, id, hn, h, hx => by
  simp only [nodupB] at hn
  split at hn
  ·cases hn
  rename_i hxn
  simp only [setAll]
  rw [setAll_get hn (by simpa using h) (fun y hy => by simpa using hx y (List.mem_cons_of_mem _ hy))]
  have hxl : x < rows.length := hx x (List.mem_cons_self ..)
  by_cases e : x = id
  ·subst e
   simp [hxn, idx, hxl]
  have hb : Nat.beq x id = false := by cases hq : Nat.beq x id; rfl; exact absurd (Nat.eq_of_beq_eq_true hq) e
  simp only [idx, hb]
  cases hi : idx L id with
  | none => simp [List.getElem?_set_ne e]
  | some j => simp
theorem setAll_length : ∀ {L : List Nat} {rows rs : List Row}, (setAll L rows rs).length = rows.length
 | [], rows, rs => by simp [setAll]
 | x :: L, rows, [] => by simp [setAll]
 | x :: L, rows, r :: rs => by simp [setAll, setAll_length (L := L)]

variable {args' ps : List PV} {rowsL rowsL' rows1 rows2 : List Row} {p p' : PV} {env' : List (Nat × PV)} {f : FuncId} {vs : List Value} {H1 : Nat → Option Value} {lim1 : Nat → Nat} {w1 : World}

theorem lt_of_bl (hR : RowsOk H lim w X.rows) {i b : Nat} (hb : bl H i = some b) : i < X.rows.length ∧ b < w.heap.size := by
 rcases Nat.lt_or_ge i X.rows.length with hi | hi
 ·exact ⟨hi, row_block (hR.row i _ (List.getElem?_eq_getElem hi)) hb⟩
 rw [bl, hR.dom i hi] at hb; cases hb

/-- What a caller knows behind a call that was handed the rows of L. -/
theorem call_back (hR : Rep D G N H lim X a w) (hL : nodupB L = true) (hrows : pickRows (sIn L X.rows) X.rows L = some rowsL) (hlen : rowsL.length ≤ rowsL'.length)
  (henv : demEnv (sKeep L X.rows) X.env = some env') (hk : demRows (sKeep L X.rows) X.rows = some rows1) (hout : demRows (sOut L X.rows.length) rowsL' = some rows2)
  (c1 : RowsOk H1 lim1 w1 rowsL') (c2 : Fr (Bl (HL L H)) lim w lim1 w1) (c3 : ∀ id v, stay v = true → HL L H id = some v → H1 id = HL L H id) (c4 : ∀ b, Bl H1 b → Bl (HL L H) b ∨ w.heap.size ≤ b) :
  Nx D (fun i => i ∈ L) G N H lim w ⟨env', place L rows1 rows2⟩ a (HB L X.rows.length H H1) lim1 w1 ∧ (∀ v, PV.sub (sOut L X.rows.length) p = some p' → V H1 lim1 w1 p v → V (HB L X.rows.length H H1) lim1 w1 p' v) := by
 obtain ⟨g1, g2, g3⟩ := pickRows_get hrows
 have hl1 := demRows_length hk
 have hl2 := demRows_length hout
 have so1 : ∀ j i v, sOut L X.rows.length j = .to i → H1 j = some v → HB L X.rows.length H H1 i = some v := by
  intro j i v h hv
  unfold sOut at h
  split at h
  ·rename_i id hid
   simp only [Sb.to.injEq] at h
   subst h
   simp only [HB, idx_get hL hid, hv]
  rename_i hid
  simp only [Sb.to.injEq] at h
  subst h
  have hj : L.length ≤ j := by
   rcases Nat.lt_or_ge j L.length with q | q
   ·rw [List.getElem?_eq_getElem q] at hid; cases hid
   exact q
  have hi : idx L (X.rows.length + (j - L.length)) = none := by
   cases hq : idx L (X.rows.length + (j - L.length)) with
   | none => rfl
   | some y => have := g2 _ (List.mem_of_getElem? (idx_some hq)); omega
  simp only [HB, hi]
  rw [if_neg (by omega), show L.length + (X.rows.length + (j - L.length) - X.rows.length) = j from by omega, hv]
 have so2 : ∀ j x v, sOut L X.rows.length j = .data x → H1 j = some v → VD lim1 w1 x v := by
  intro j x v h
  unfold sOut at h
  split at h <;> cases h
 have sk1 : ∀ i j v, sKeep L X.rows i = .to j → H i = some v → HB L X.rows.length H H1 j = some v := by
  intro i j v h hv
  have hlt : i < X.rows.length := by
   rcases Nat.lt_or_ge i X.rows.length with q | q
   ·exact q
   rw [hR.rows.dom i q] at hv; cases hv
  unfold sKeep at h
  split at h
  ·rename_i y hy
   split at h
   ·cases h
   ·rename_i ty cells hr
    simp only [Sb.to.injEq] at h
    subst h
    obtain ⟨b, cs, e1, _⟩ := hR.rows.row i _ hr
    rw [hv] at e1
    simp only [Option.some.injEq] at e1
    subst e1
    have e2 : HL L H y = some (.pointer (some ⟨b, 0, none⟩)) := by simp [HL, idx_some hy, hv]
    have := c3 y _ rfl e2
    simp only [HB, hy, this, e2]
   ·rename_i ty es hr
    simp only [Sb.to.injEq] at h
    subst h
    obtain ⟨b, ms, e1, _⟩ := hR.rows.row i _ hr
    rw [hv] at e1
    simp only [Option.some.injEq] at e1
    subst e1
    have e2 : HL L H y = some (.map (some b)) := by simp [HL, idx_some hy, hv]
    have := c3 y _ rfl e2
    simp only [HB, hy, this, e2]
   ·rename_i ty xs hr
    simp only [Sb.to.injEq] at h
    subst h
    obtain ⟨b, cs, e1, _⟩ := hR.rows.row i _ hr
    rw [hv] at e1
    simp only [Option.some.injEq] at e1
    subst e1
    have e2 : HL L H y = some (.pointer (some ⟨b, 0, none⟩)) := by simp [HL, idx_some hy, hv]
    have := c3 y _ rfl e2
    simp only [HB, hy, this, e2]
   cases h
  rename_i hy
  simp only [Sb.to.injEq] at h
  subst h
  simp only [HB, hy, if_pos hlt, hv]
 have sk2 : ∀ i x v, sKeep L X.rows i = .data x → H i = some v → VD lim1 w1 x v := by
  intro i x v h hv
  unfold sKeep at h
  split at h
  ·split at h
   ·rename_i e k xs hr
    simp only [Sb.data.injEq] at h
    subst h
    obtain ⟨u, hu, hd⟩ := acc_reads (hR.rows.row i _ hr)
    rw [hv] at hu
    cases hu
    exact VD.mono c2 _ _ hd
   ·cases h
   ·cases h
   ·cases h
   cases h
  cases h
 have hB : ∀ id b, bl (HB L X.rows.length H H1) id = some b → (∃ j, bl H1 j = some b ∧ (idx L id = some j ∨ (idx L id = none ∧ X.rows.length ≤ id ∧ j = L.length + (id - X.rows.length)))) ∨ (idx L id = none ∧ id < X.rows.length ∧ bl H id = some b) := by
  intro id b hb
  cases hi : idx L id with
  | some j =>
   simp only [bl, HB, hi] at hb
   exact .inl ⟨j, hb, .inl rfl⟩
  | none =>
   by_cases hlt : id < X.rows.length
   ·simp only [bl, HB, hi, if_pos hlt] at hb
    exact .inr ⟨rfl, hlt, hb⟩
   simp only [bl, HB, hi, if_neg hlt] at hb
   exact .inl ⟨_, hb, .inr ⟨rfl, by omega, rfl⟩⟩
 have hapart : ∀ id j b, idx L id = none → bl H id = some b → bl H1 j ≠ some b := by
  intro id j b hi hb hj
  rcases c4 b ⟨j, hj⟩ with ⟨y, hy⟩ | hy
  ·obtain ⟨id', e1, e2⟩ := bl_HL hy
   exact hR.rows.apart id id' b (fun e => idx_none hi (e ▸ List.mem_of_getElem? e1)) hb e2
  have := (lt_of_bl hR.rows hb).2; omega
 have hget : ∀ id r, (place L rows1 rows2)[id]? = some r → (∃ j, rows2[j]? = some r ∧ HB L X.rows.length H H1 id = H1 j) ∨ (idx L id = none ∧ id < X.rows.length ∧ rows1[id]? = some r) := by
  intro id r h
  unfold place at h
  have hs : (setAll L rows1 rows2).length = X.rows.length := by rw [setAll_length, hl1]
  by_cases hlt : id < X.rows.length
  ·rw [List.getElem?_append_left (by omega), setAll_get hL (by omega) (fun x hx => by have := g2 x hx; omega)] at h
   cases hi : idx L id with
   | some j => rw [hi] at h; exact .inl ⟨j, h, by simp only [HB, hi]⟩
   | none => rw [hi] at h; exact .inr ⟨rfl, hlt, h⟩
  rw [List.getElem?_append_right (by omega), hs, List.getElem?_drop] at h
  have hi : idx L id = none := by
   cases hq : idx L id with
   | none => rfl
   | some y => have := g2 _ (List.mem_of_getElem? (idx_some hq)); omega
  exact .inl ⟨_, h, by simp only [HB, hi, if_neg hlt]⟩
 refine ⟨⟨⟨fun j q hj => ?_, ⟨fun id r hr => ?_, fun i j b hij hi hj => ?_, fun id hid => ?_⟩, hR.glob.mono c2 Bl_HL (fun b ⟨id, hb⟩ => by
  rcases hB id b hb with ⟨j, q1, _⟩ | ⟨_, _, q2⟩
  ·rcases c4 b ⟨j, q1⟩ with hy | hy
   ·exact .inl (Bl_HL b hy)
   exact .inr hy
  exact .inl ⟨id, q2⟩), hR.defers, hR.size⟩, c2.weaken fun b ⟨j, hj⟩ => ?_, fun id q hst hq => ?_, fun b ⟨id, hb⟩ => ?_⟩, fun v hs hv => V.sub (Fr.refl (fun _ => False) lim1 w1) so1 so2 _ _ _ hs hv⟩
 ·obtain ⟨q', q1, q2⟩ := look_demEnv henv hj
  obtain ⟨r1, r2⟩ := hR.env j q' q1
  exact ⟨r1, V.sub c2 sk1 sk2 _ _ _ q2 r2⟩
 ·rcases hget id r hr with ⟨j, e1, e2⟩ | ⟨hi, hlt, e1⟩
  ·obtain ⟨r0, f1, f2⟩ := demRows_get hout e1
   exact row_dem (Fr.refl (fun _ => False) lim1 w1) so1 so2 (fun v hv => e2.trans hv) (fun _ _ q => q) f2 (c1.row j r0 f1)
  obtain ⟨r0, f1, f2⟩ := demRows_get hk e1
  refine row_dem c2 sk1 sk2 (fun v hv => by simp only [HB, hi, if_pos hlt, hv]) (fun b hb ⟨y, hy⟩ => ?_) f2 (hR.rows.row id r0 f1)
  obtain ⟨id', q1, q2⟩ := bl_HL hy
  exact hR.rows.apart id id' b (fun e => idx_none hi (e ▸ List.mem_of_getElem? q1)) hb q2
 ·rcases hB i b hi with ⟨x, x1, x2⟩ | ⟨x1, _, x2⟩ <;> rcases hB j b hj with ⟨y, y1, y2⟩ | ⟨y1, _, y2⟩
  ·refine c1.apart x y b (fun e => hij ?_) x1 y1
   subst e
   rcases x2 with x2 | ⟨x2, x3, x4⟩ <;> rcases y2 with y2 | ⟨y2, y3, y4⟩
   ·have := idx_some x2; rw [idx_some y2] at this; exact (Option.some.inj this).symm
   ·have h1 := idx_some x2
    have := (List.getElem?_eq_some_iff.1 h1).1
    omega
   ·have h1 := idx_some y2
    have := (List.getElem?_eq_some_iff.1 h1).1
    omega
   omega
  ·exact hapart j x b y1 y2 x1
  ·exact hapart i y b x1 x2 y1
  exact hR.rows.apart i j b hij x2 y2
 ·have hlen2 : (place L rows1 rows2).length = X.rows.length + (rows2.length - L.length) := by simp only [place, List.length_append, setAll_length, List.length_drop]; omega
  rw [hlen2] at hid
  have hi : idx L id = none := by
   cases hq : idx L id with
   | none => rfl
   | some y => have := g2 _ (List.mem_of_getElem? (idx_some hq)); omega
  simp only [HB, hi]
  rw [if_neg (by omega)]
  exact c1.dom _ (by omega)
 ·obtain ⟨id, q1, q2⟩ := bl_HL hj
  exact ⟨id, List.mem_of_getElem? q1, q2⟩
 ·have hlt : id < X.rows.length := by
   rcases Nat.lt_or_ge id X.rows.length with h | h
   ·exact h
   rw [hR.rows.dom id h] at hq; cases hq
  cases hi : idx L id with
  | some j =>
   have e : HL L H j = some q := by simp [HL, idx_some hi, hq]
   simp only [HB, hi, c3 j q hst e, e, hq]
  | none => simp only [HB, hi, if_pos hlt]
 rcases hB id b hb with ⟨j, q1, _⟩ | ⟨_, _, q2⟩
 ·rcases c4 b ⟨j, q1⟩ with ⟨y, hy⟩ | hy
  ·obtain ⟨id', _, e2⟩ := bl_HL hy
   exact .inl ⟨id', e2⟩
  exact .inr hy
 exact .inl ⟨id, q2⟩
end
end Go.Abs
end
section
namespace Go.Abs
open Go

def nth {α : Type} : List α → Nat → Option α
 | [], _ => none
 | x :: r, i => match Nat.beq i 0 with
  | true => some x
  | false => nth r (Nat.pred i)
theorem nth_get {α : Type} : ∀ (l : List α) (i : Nat), nth l i = l[i]?
 | [], i => by simp [nth]
 | x :: r, 0 => by simp [nth]
 | x :: r, i + 1 => by
  have : Nat.beq (i + 1) 0 = false := rfl
  simp [nth, this, nth_get r i]
theorem nth_ops (ops : Array Oper) (i : Nat) : nth ops.toList i = ops[i]? := by rw [nth_get]; simp
def setE (d : Option Nat) (p : PV) (X : St) : St := match d with
 | some d => ⟨(d, p) :: X.env, X.rows⟩
 | none => X
def dstOk (N : Nat) : Option Nat → Bool
 | some d => Nat.blt d N
 | none => true

def aCall (P : Program) (G : Glob) (X : St) (f : FuncId) (ps : List PV) (k : PV → St → List Nat → Prop) (pan : PV → St → Prop) : Prop :=
 ∃ (L : List Nat) (args' : List PV) (rowsL : List Row) (out : Out) (rowsL' rows1 rows2 : List Row) (env' : List (Nat × PV)),
  nodupB L = true ∧ PV.subs (sIn L X.rows) ps = some args' ∧ pickRows (sIn L X.rows) X.rows L = some rowsL ∧ Spec P G f args' rowsL out rowsL' ∧
  demRows (sOut L X.rows.length) rowsL' = some rows2 ∧ demEnv (sKeep L X.rows) X.env = some env' ∧ demRows (sKeep L X.rows) X.rows = some rows1 ∧
  match out with
  | .ret p => ∃ p', PV.sub (sOut L X.rows.length) p = some p' ∧ k p' ⟨env', place L rows1 rows2⟩ L
  | .pan p => ∃ p', PV.sub (sOut L X.rows.length) p = some p' ∧ pan p' ⟨env', place L rows1 rows2⟩

def act (P : Program) (T : Tab) (G : Glob) (K : Option (Nat → Bool)) (X : St) (op : Op) (k : PV → St → List Nat → Prop) (pan : PV → St → Prop) : Prop := match op with
 | .panic x => match ev G X x with
  | some p => match isIfc p with
   | true => pan p X
   | false => False
  | none => False
 | .call c => match c.callee with
  | .builtin .append => xop T G X (.call c) k
  | .builtin .len => pop T G K X (.call c) fun p => k p X []
  | .value x => match ev G X x, evs G X c.args.toList with
   | some (.fn f caps), some ps => aCall P G X f (ps ++ caps) k pan
   | _, _ => False
  | _ => False
 | .alloc t => xop T G X (.alloc t) k
 | .box t x => xop T G X (.box t x) k
 | .build t ps => xop T G X (.build t ps) k
 | .buildSlice t n ps => xop T G X (.buildSlice t n ps) k
 | .store t x y => xop T G X (.store t x y) k
 | .makeFunc f x y => xop T G X (.makeFunc f x y) k
 | .makeMap t x => xop T G X (.makeMap t x) k
 | .mapUpdate t m x y => xop T G X (.mapUpdate t m x y) k
 | .insert t m x y => xop T G X (.insert t m x y) k
 | .makeSlice t x y => xop T G X (.makeSlice t x y) k
 | op => pop T G K X op fun p => k p X []

def dstAt (ops : Array Oper) (j : Nat) : Option Tmp := match nth ops.toList j with
 | some o => o.dst
 | none => none
theorem dstAt_eq (ops : Array Oper) (j : Nat) : dstAt ops j = (ops[j]?).bind (·.dst) := by
 unfold dstAt
 rw [nth_ops]
 cases ops[j]? <;> rfl
/-- What an operation's guard says: wanted or not, as the bool is. -/
def guarded (ops : Array Oper) (o : Oper) (X : St) (yes no : St → Prop) : Prop := match o.guard with
 | none => yes X
 | some (j, want) => match dstAt ops j with
  | some d => match look X.env d with
   | some (.d (.s (.bool b))) => match want with
    | true => Bool.rec (motive := fun _ => Prop) (no (setE (some d) (.d (.s (.bool false))) X)) (yes (setE (some d) (.d (.s (.bool true))) X)) b
    | false => Bool.rec (motive := fun _ => Prop) (yes (setE (some d) (.d (.s (.bool false))) X)) (no (setE (some d) (.d (.s (.bool true))) X)) b
   | some (.d (.s (.tuple _))) => no X
   | _ => False
  | none => False

/-- The operations of a region, one after another. -/
def aops (P : Program) (T : Tab) (G : Glob) (N : Nat) (ops : Array Oper) (pan : PV → St → Prop) : List Nat → (St → Prop) → St → Prop
 | [], k, X => k X
 | i :: l, k, X => match nth ops.toList i with
  | some o => match dstOk N o.dst with
   | true => guarded ops o X (fun X1 => act P T G (some fun _ => true) X1 o.op (fun p X2 _ => aops P T G N ops pan l k (setE o.dst p X2)) pan)
     (fun X1 => aops P T G N ops pan l k (setE o.dst (.d (.s undef)) X1))
   | false => False
  | none => False

section
variable {P : Program} {T : Tab} {G : Glob} {D : List Deferred} {N B : Nat} {X X' : St} {H H' : Nat → Option Value} {lim lim' : Nat → Nat} {a : Act} {w w' : World} {K : Option (Nat → Bool)}

theorem rep_put (hR : Rep D G N H lim X a w) {d : Option Nat} {p : PV} {v : Value} (hd : dstOk N d = true) (hv : V H lim w p v) : Rep D G N H lim (setE d p X) (a.put d v) w := by
 cases d with
 | none => exact hR
 | some d =>
  have hlt : d < N := by simpa [dstOk, Nat.blt_eq] using hd
  refine ⟨fun j q hj => ?_, hR.rows, hR.glob, hR.defers, by simp [Act.put, hR.size]⟩
  simp only [setE, look] at hj
  split at hj
  ·rename_i e
   subst e
   simp only [Option.some.injEq] at hj
   subst hj
   refine ⟨hlt, ?_⟩
   have : (a.put (some d) v).tmps.getD d undef = v := by
    simp [Act.put, hR.size, hlt]
   rw [this]
   exact hv
  rename_i e
  obtain ⟨r1, r2⟩ := hR.env j q hj
  refine ⟨r1, ?_⟩
  have : (a.put (some d) v).tmps.getD j undef = a.tmps.getD j undef := by
   simp [Act.put, Array.getElem?_setIfInBounds_ne e]
  rw [this]
  exact r2
theorem rep_same (hR : Rep D G N H lim X a w) {d : Nat} {p : PV} (hlt : d < N) (hv : V H lim w p (a.tmps.getD d undef)) : Rep D G N H lim (setE (some d) p X) a w := by
 refine ⟨fun j q hj => ?_, hR.rows, hR.glob, hR.defers, hR.size⟩
 simp only [setE, look] at hj
 split at hj
 ·rename_i e
  subst e
  simp only [Option.some.injEq] at hj
  subst hj
  exact ⟨hlt, hv⟩
 exact hR.env j q hj

theorem guarded_sound {ops : Array Oper} {o : Oper} {yes no : St → Prop} (hR : Rep D G N H lim X a w) (h : guarded ops o X yes no) :
  (Region.wanted o (yielded ops a.tmps) = true ∧ ∃ X1, Rep D G N H lim X1 a w ∧ X1.rows = X.rows ∧ yes X1) ∨ (Region.wanted o (yielded ops a.tmps) = false ∧ ∃ X1, Rep D G N H lim X1 a w ∧ X1.rows = X.rows ∧ no X1) := by
 unfold guarded at h
 split at h
 ·rename_i hg
  exact .inl ⟨by simp [Region.wanted, hg], X, hR, rfl, h⟩
 rename_i j want hg
 split at h
 ·rename_i d hd
  rw [dstAt_eq] at hd
  split at h
  ·rename_i b hb
   obtain ⟨hlt, hv⟩ := hR.env d _ hb
   simp only [V, VD.eq_1] at hv
   have hy : yielded ops a.tmps j = some b := by
    unfold yielded
    rw [hd]
    have : a.tmps[d]? = some (.bool b) := by
     rw [Array.getD_eq_getD_getElem?] at hv
     cases hq : a.tmps[d]? with
     | none => rw [Array.getElem?_eq_none_iff] at hq; have := hR.size; omega
     | some u => rw [hq] at hv; simpa using hv
    simp [this]
   have hrt : ∀ c, b = c → Rep D G N H lim (setE (some d) (.d (.s (.bool c))) X) a w := fun c e => rep_same hR hlt (by simp only [V, VD.eq_1]; rw [hv, e])
   have hr : ∀ p, (setE (some d) p X).rows = X.rows := fun p => rfl
   split at h
   ·cases hb' : b with
    | true => exact .inl ⟨by simp [Region.wanted, hg, hy, hb'], _, hrt true hb', hr _, (onB_elim h).1 hb'⟩
    | false => exact .inr ⟨by simp [Region.wanted, hg, hy, hb'], _, hrt false hb', hr _, (onB_elim h).2 hb'⟩
   cases hb' : b with
   | true => exact .inr ⟨by simp [Region.wanted, hg, hy, hb'], _, hrt true hb', hr _, (onB_elim h).1 hb'⟩
   | false => exact .inl ⟨by simp [Region.wanted, hg, hy, hb'], _, hrt false hb', hr _, (onB_elim h).2 hb'⟩
  ·rename_i vs hb
   obtain ⟨hlt, hv⟩ := hR.env d _ hb
   simp only [V, VD.eq_1] at hv
   have hy : yielded ops a.tmps j = none := by
    unfold yielded
    rw [hd]
    have : a.tmps[d]? = some (.tuple vs) := by
     rw [Array.getD_eq_getD_getElem?] at hv
     cases hq : a.tmps[d]? with
     | none => rw [Array.getElem?_eq_none_iff] at hq; have := hR.size; omega
     | some u => rw [hq] at hv; simpa using hv
    simp [this]
   exact .inr ⟨by simp [Region.wanted, hg, hy], X, hR, rfl, h⟩
  exact h.elim
 exact h.elim

/-- One operation, in the machine's own wp. -/
theorem act_sound (hT : TabOk P T) (hR : Rep D G N H lim X a w) {o : Oper} {k : PV → St → List Nat → Prop} {pan : PV → St → Prop} (h : act P T G (some fun _ => true) X o.op k pan)
  {next : Act → World → Prop} {Q : Exit → Act → World → Prop}
  (hk : ∀ p X' F H' lim' w' v, k p X' F → Nx D (fun i => i ∈ F) G N H lim w X' a H' lim' w' → V H' lim' w' p v → next (a.put o.dst v) w')
  (hp : ∀ p X' H' lim' w' v, pan p X' → Rep D G N H' lim' X' a w' → (∀ B, Lk B H lim w H' lim' w') → V H' lim' w' p v → Q (.panic [{ v, recovered := false }]) a w') :
  o.wp P a w next Q := by
 have kpop : ∀ op, o.op = op → pop T G (some fun _ => true) X op (fun p => k p X []) → o.wp P a w next Q := by
  intro op ho h
  obtain ⟨p, ⟨v, h1, h2⟩, h3⟩ := pop_sound hT hR o _ (ho ▸ h)
  have := h1 w (Agr.refl _ H lim w)
  unfold Oper.wp
  rw [this]
  exact hk p X [] H lim w v h3 (Nx.refl hR) h2
 have kxop : ∀ op, o.op = op → xop T G X op k → o.wp P a w next Q := by
  intro op ho h
  obtain ⟨p, X', F, ⟨H', lim', w', v, h1, h2, h3⟩, h4⟩ := xop_sound hT hR o _ (ho ▸ h)
  unfold Oper.wp
  rcases h1 with h1 | ⟨h1, rfl⟩
  ·rw [h1]; exact hk p X' F H' lim' w' v h4 h2 h3
  rw [h1]; exact hk p X' F H' lim' w' undef h4 h2 h3
 unfold act at h
 split at h
 ·rename_i x ho
  split at h
  ·rename_i p hx
   split at h
   ·rename_i hi
    have vx := ev_sound hR hx
    obtain ⟨t, u, hv⟩ := isIfc_V hi vx
    unfold Oper.wp
    have : (execOp a.eval o).run P w = .halt (.panic (a.eval x)) w := by
     simp [execOp, ho, hv, Instr.panic]
    rw [this]
    exact hp p X H lim w _ h hR (fun _ => Lk.refl) vx
   exact h.elim
  exact h.elim
 ·rename_i c ho
  split at h
  ·exact kxop _ ho h
  ·exact kpop _ ho h
  ·rename_i x hc
   split at h
   ·rename_i f caps ps hx hps
    have vx := ev_sound hR hx
    have vps := evs_sound hR _ _ hps
    simp only [V] at vx
    obtain ⟨cs, hf, hcs⟩ := vx
    obtain ⟨L, args', rowsL, out, rowsL', rows1, rows2, env', hL, hin, hrows, ⟨hen, hlen, hsp⟩, hout, henv, hk1, hfin⟩ := h
    have hvs : Vs (HL L H) lim w args' (c.args.toList.map a.eval ++ cs) := Vs.sub (Fr.refl (fun _ => False) lim w) (sIn_ok hR.rows).1 (sIn_ok hR.rows).2 _ _ _ hin (Vs_append vps hcs)
    have hcalls := hsp (HL L H) lim w _ (rows_pick hR.rows hL hrows) (hR.glob.sub Bl_HL) hvs
    unfold Oper.wp
    have hrun : (execOp a.eval o).run P w = .ok (.enter f (c.args.toList.map a.eval ++ cs).toArray) w := by
     have e : c.args.map a.eval ++ cs.toArray = (c.args.toList.map a.eval ++ cs).toArray := by apply Array.ext'; simp
     have := hen (c.args.map a.eval ++ cs.toArray) w
     rw [e] at this
     simp only [execOp, ho, resolve, hc, hf, Deferred.ofValue, Sem.run_bind, Sem.run_pure, Result.andThen, invoke]
     simpa [e] using this
    rw [hrun, Oper.upon_enter]
    refine Calls.mono hcalls ?_
    intro e w' ⟨H1, lim1, c1, c2, c3, c4, c5⟩
    obtain ⟨hnx, hval⟩ := call_back (p := match out with | .ret p => p | .pan p => p) (p' := match out with | .ret p => (PV.sub (sOut L X.rows.length) p).getD (.tup []) | .pan p => (PV.sub (sOut L X.rows.length) p).getD (.tup [])) hR hL hrows hlen henv hk1 hout c1 c2 c3 c4
    cases out with
    | ret p =>
     obtain ⟨p', hp', hfin⟩ := hfin
     obtain ⟨v, rfl, hv⟩ := c5
     simp only [hp', Option.getD_some] at hval
     exact hk p' _ L _ lim1 w' v hfin hnx (hval v trivial hv)
    | pan p =>
     obtain ⟨p', hp', hfin⟩ := hfin
     obtain ⟨v, rfl, hv⟩ := c5
     simp only [hp', Option.getD_some] at hval
     exact hp p' _ _ lim1 w' v hfin hnx.rep (fun _ => hnx.lk) (hval v trivial hv)
   exact h.elim
  exact h.elim
 ·rename_i ho; exact kxop _ ho h
 ·rename_i ho; exact kxop _ ho h
 ·rename_i ho; exact kxop _ ho h
 ·rename_i ho; exact kxop _ ho h
 ·rename_i ho; exact kxop _ ho h
 ·rename_i ho; exact kxop _ ho h
 ·rename_i ho; exact kxop _ ho h
 ·rename_i ho; exact kxop _ ho h
 ·rename_i ho; exact kxop _ ho h
 ·rename_i ho; exact kxop _ ho h
 exact kpop _ rfl h

theorem aops_sound (hT : TabOk P T) {ops : Array Oper} {Q : AExit → St → Prop} {H0 : Nat → Option Value} {lim0 : Nat → Nat} {w0 : World} :
  ∀ (l : List Nat) (X : St) (H : Nat → Option Value) (lim : Nat → Nat) (a : Act) (w : World), aops P T G N ops (fun p X => Q (.pan p) X) l (fun X => Q .normal X) X → Rep D G N H lim X a w → Lk B H0 lim0 w0 H lim w →
   wpOps P ops (Post D G N B Q H0 lim0 w0) l a w
 | [], X, H, lim, a, w, h, hR, lk => ⟨X, H, lim, hR, lk, h⟩
 | i :: l, X, H, lim, a, w, h, hR, lk => by
  simp only [aops] at h
  simp only [wpOps]
  split at h
  ·rename_i o ho
   rw [nth_ops] at ho
   rw [ho]
   split at h
   ·rename_i hd
    simp only
    rcases guarded_sound hR h with ⟨hw, X1, hR1, _, h⟩ | ⟨hw, X1, hR1, _, h⟩
    ·rw [if_pos hw]
     refine .inl (act_sound hT hR1 h ?_ ?_)
     ·intro p X' F H' lim' w' v hk hnx hv
      exact aops_sound hT l _ H' lim' _ w' hk (rep_put hnx.rep hd hv) (lk.trans hnx.lk)
     intro p X' H' lim' w' v hp hR' lk' hv
     exact ⟨X', H', lim', v, p, rfl, hR'.rows, hv, hR'.defers, lk.trans (lk' B), hp⟩
    rw [if_neg (by simp [hw])]
    exact aops_sound hT l _ H lim _ w h (rep_put hR1 hd (V_s _)) lk
   exact h.elim
  exact h.elim

theorem awp_region (hT : TabOk P T) {ops : Array Oper} {id : Nat} {Q : AExit → St → Prop} (h : aops P T G N ops (fun p X => Q (.pan p) X) (List.range ops.size) (fun X => Q .normal X) X) : AWp D P G N B (.region id ops false) Q X :=
 fun H lim a w hR => wp_region (aops_sound hT _ X H lim a w h hR Lk.refl)

theorem awp_region_k (hT : TabOk P T) {ops : Array Oper} {id : Nat} {Q : AExit → St → Prop} (h : ∀ (pan : PV → St → Prop) (K : St → Prop), (∀ p X, Q (.pan p) X → pan p X) → (∀ X, Q .normal X → K X) → aops P T G N ops pan (List.range ops.size) K X) : AWp D P G N B (.region id ops false) Q X :=
 awp_region hT (h _ _ (fun _ _ q => q) fun _ q => q)
theorem aCall_ret {L : List Nat} {f : FuncId} {ps args' : List PV} {rowsL rowsL' rows1 rows2 : List Row} {p p' : PV} {env' : List (Nat × PV)} {k : PV → St → List Nat → Prop} {pan : PV → St → Prop}
  (hL : nodupB L = true) (hin : PV.subs (sIn L X.rows) ps = some args') (hrows : pickRows (sIn L X.rows) X.rows L = some rowsL) (hs : Spec P G f args' rowsL (.ret p) rowsL')
  (hout : demRows (sOut L X.rows.length) rowsL' = some rows2) (henv : demEnv (sKeep L X.rows) X.env = some env') (hk : demRows (sKeep L X.rows) X.rows = some rows1) (hp : PV.sub (sOut L X.rows.length) p = some p')
  (h : k p' ⟨env', place L rows1 rows2⟩ L) : aCall P G X f ps k pan :=
 ⟨L, args', rowsL, .ret p, rowsL', rows1, rows2, env', hL, hin, hrows, hs, hout, henv, hk, p', hp, h⟩
theorem aCall_pan {L : List Nat} {f : FuncId} {ps args' : List PV} {rowsL rowsL' rows1 rows2 : List Row} {p p' : PV} {env' : List (Nat × PV)} {k : PV → St → List Nat → Prop} {pan : PV → St → Prop}
  (hL : nodupB L = true) (hin : PV.subs (sIn L X.rows) ps = some args') (hrows : pickRows (sIn L X.rows) X.rows L = some rowsL) (hs : Spec P G f args' rowsL (.pan p) rowsL')
  (hout : demRows (sOut L X.rows.length) rowsL' = some rows2) (henv : demEnv (sKeep L X.rows) X.env = some env') (hk : demRows (sKeep L X.rows) X.rows = some rows1) (hp : PV.sub (sOut L X.rows.length) p = some p')
  (h : pan p' ⟨env', place L rows1 rows2⟩) : aCall P G X f ps k pan :=
 ⟨L, args', rowsL, .pan p, rowsL', rows1, rows2, env', hL, hin, hrows, hs, hout, henv, hk, p', hp, h⟩

/-- A list, reckoned out. -/
def forceL {α : Type} : List α → Option (List α)
 | [] => some []
 | x :: r => match forceL r with
  | some r' => some (x :: r')
  | none => none
def forceRows : List Row → Option (List Row)
 | [] => some []
 | .box ty cells :: r => match forceL cells with
  | some cells => match forceRows r with
   | some r' => some (.box ty cells :: r')
   | none => none
  | none => none
 | .acc e k xs :: r => match forceRows r with
  | some r' => some (.acc e k xs :: r')
  | none => none
 | .map t es :: r => match forceRows r with
  | some r' => some (.map t es :: r')
  | none => none
 | .vec ty xs :: r => match forceRows r with
  | some r' => some (.vec ty xs :: r')
  | none => none
theorem forceL_eq {α : Type} : ∀ {l l' : List α}, forceL l = some l' → l' = l
 | [], l', h => by simp only [forceL, Option.some.injEq] at h; exact h.symm
 | x :: r, l', h => by
  simp only [forceL] at h
  split at h
  ·rename_i r' hr
   simp only [Option.some.injEq] at h
   rw [← h, forceL_eq hr]
  cases h
theorem forceRows_eq : ∀ {l l' : List Row}, forceRows l = some l' → l' = l
 | [], l', h => by simp only [forceRows, Option.some.injEq] at h; exact h.symm
 | .box ty cells :: r, l', h => by
  simp only [forceRows] at h
  split at h
  ·rename_i cs hc
   split at h
   ·rename_i r' hr
    simp only [Option.some.injEq] at h
    rw [← h, forceRows_eq hr, forceL_eq hc]
   cases h
  cases h
 | .acc e k xs :: r, l', h => by
  simp only [forceRows] at h
  split at h
  ·rename_i r' hr
   simp only [Option.some.injEq] at h
   rw [← h, forceRows_eq hr]
  cases h
 | .map t es :: r, l', h => by
  simp only [forceRows] at h
  split at h
  ·rename_i r' hr
   simp only [Option.some.injEq] at h
   rw [← h, forceRows_eq hr]
  cases h
 | .vec ty xs :: r, l', h => by
  simp only [forceRows] at h
  split at h
  ·rename_i r' hr
   simp only [Option.some.injEq] at h
   rw [← h, forceRows_eq hr]
  cases h
theorem sub_norm {slots : List Nat} {env' : List (Nat × PV)} {rows' : List Row} (h1 : pickEnv X.env slots = some env') (h2 : forceRows X.rows = some rows') : Sub D G N B X ⟨env', rows'⟩ := by
 intro H lim a w hR
 rw [forceRows_eq h2]
 exact ⟨H, lim, ⟨fun j p hj => hR.env j p (pickEnv_look h1 hj), hR.rows, hR.glob, hR.defers, hR.size⟩, Lk.refl⟩
/-- The state, reckoned out, with these slots alone. -/
theorem awp_norm (slots : List Nat) {c : Code} {Q : AExit → St → Prop} {env' : List (Nat × PV)} {rows' : List Row} (h1 : pickEnv X.env slots = some env') (h2 : forceRows X.rows = some rows') (h : AWp D P G N B c Q ⟨env', rows'⟩) : AWp D P G N B c Q X :=
 awp_sub (sub_norm h1 h2) h

/-- What a load of a box gives. -/
def loadP (T : Tab) (X : St) (t : TypeId) (x : Option PV) : Option PV := match T t, x with
 | some i, some (.box id off) => match X.rows[id]? with
  | some (.box _ cells) => match i.desc.agg with
   | true => match Nat.ble (off + i.size) cells.length, PV.subs (dem X.rows) ((cells.drop off).take i.size) with
    | true, some cs => some (mkAgg cs)
    | _, _ => none
   | false => cells[off]?
  | _ => none
 | _, _ => none
theorem loadP_pLoad {t : TypeId} {x : Option PV} {p : PV} (h : loadP T X t x = some p) : pLoad T (some fun _ => true) X t x (fun q => q = p) := by
 unfold loadP at h
 split at h
 ·rename_i i id off hTt
  split at h
  ·rename_i ty cells hr
   simp only [pLoad, pLoad1, hTt, hr]
   split at h
   ·rename_i hd
    split at h
    ·rename_i cs h1 h2
     simp only [Option.some.injEq] at h
     simp only [hd, h1, h2, h]
    cases h
   rename_i hd
   simp only [hd, h]
  cases h
 cases h

/-- What a function's results are. -/
def aResults (T : Tab) (X : St) : List ResultVar → Option (List PV)
 | [] => some []
 | .tmp t :: r => match look X.env t with
  | some p => match aResults T X r with
   | some ps => some (p :: ps)
   | none => none
  | none => none
 | .cell b t :: r => match loadP T X t (look X.env b) with
  | some p => match aResults T X r with
   | some ps => some (p :: ps)
   | none => none
  | none => none
def resOf : List PV → PV
 | [p] => p
 | ps => .tup ps
def argEnv : Nat → List PV → List (Nat × PV)
 | _, [] => []
 | i, p :: ps => (i, p) :: argEnv (i + 1) ps

theorem argEnv_look {ps : List PV} {j : Nat} {p : PV} : ∀ {i : Nat}, look (argEnv i ps) j = some p → i ≤ j ∧ ps[j - i]? = some p := by
 induction ps with
 | nil => intro i h; cases h
 | cons q ps ih =>
  intro i h
  simp only [argEnv, look] at h
  split at h
  ·rename_i e; subst e; simpa using h
  rename_i e
  obtain ⟨h1, h2⟩ := ih h
  refine ⟨by omega, ?_⟩
  rw [show j - i = (j - (i + 1)) + 1 from by omega, List.getElem?_cons_succ]
  exact h2

theorem aResults_sound (hT : TabOk P T) (hR : Rep D G N H lim X a w) : ∀ (l : List ResultVar) (ps : List PV), aResults T X l = some ps → ∃ vs : List Value, (l.mapM (fun
  | .tmp t => pure (a.tmps.getD t undef)
  | .cell b t => do loadVar t (← asAddr (a.tmps.getD b undef))) : Sem (List Value)).run P w = .ok vs w ∧ Vs H lim w ps vs
 | [], ps, h => by simp only [aResults, Option.some.injEq] at h; subst h; exact ⟨[], by simp, by simp only [Vs]⟩
 | .tmp t :: r, ps, h => by
  simp only [aResults] at h
  split at h
  ·rename_i p hp
   split at h
   ·rename_i qs hq
    simp only [Option.some.injEq] at h
    subst h
    obtain ⟨vs, h1, h2⟩ := aResults_sound hT hR r qs hq
    refine ⟨a.tmps.getD t undef :: vs, ?_, by simp only [Vs]; exact ⟨_, vs, rfl, (hR.env t p hp).2, h2⟩⟩
    rw [List.mapM_cons]
    simp only [Sem.run_bind, Sem.run_pure, Result.andThen]
    rw [h1]
   cases h
  cases h
 | .cell b t :: r, ps, h => by
  simp only [aResults] at h
  split at h
  ·rename_i p hp
   split at h
   ·rename_i qs hq
    simp only [Option.some.injEq] at h
    subst h
    obtain ⟨vs, h1, h2⟩ := aResults_sound hT hR r qs hq
    obtain ⟨p', ⟨v, g1, g2⟩, rfl⟩ := pLoad_sound (o := { dst := none, op := .load t (.tmp b), type := 0, pos := "", after := #[], guard := none }) hT hR rfl (loadP_pLoad hp)
    have g := g1 w (Agr.refl _ H lim w)
    have hbox : ∃ ad, a.tmps.getD b undef = .pointer (some ad) := by
     unfold loadP at hp
     split at hp
     ·rename_i hx
      have := (hR.env b _ hx).2
      simp only [V] at this
      obtain ⟨bb, _, hv⟩ := this
      exact ⟨_, hv⟩
     cases hp
    obtain ⟨ad, had⟩ := hbox
    have hl : (loadVar t ad).run P w = .ok v w := by
     have e : (execOp a.eval { dst := none, op := .load t (.tmp b), type := 0, pos := "", after := #[], guard := none }).run P w = ((loadVar t ad).run P w).andThen fun v w => .ok (.value v) w := by
      simp only [execOp, Act.eval, had, Instr.loadAt, Instr.sureAddr, Sem.run_bind, Sem.run_pure, Result.andThen]
     rw [e] at g
     cases hq2 : (loadVar t ad).run P w with
     | ok v2 w2 => rw [hq2] at g; simp only [Result.andThen, Result.ok.injEq, Next.value.injEq] at g; rw [g.1, g.2]
     | halt x w2 => rw [hq2] at g; simp [Result.andThen] at g
    refine ⟨v :: vs, ?_, by simp only [Vs]; exact ⟨v, vs, rfl, g2, h2⟩⟩
    rw [List.mapM_cons]
    have ha : asAddr (.pointer (some ad)) = (pure ad : Sem Addr) := rfl
    simp only [had, ha, Sem.run_bind, Sem.run_pure, Result.andThen, hl]
    rw [h1]
   cases h
  cases h

def RetPost (T : Tab) (fn : Func) (out : Out) (rows' : List Row) : AExit → St → Prop := fun e X => match e with
 | .normal => ∃ ps, aResults T X fn.results.toList = some ps ∧ out = .ret (resOf ps) ∧ X.rows = rows'
 | .ret => ∃ ps, aResults T X fn.results.toList = some ps ∧ out = .ret (resOf ps) ∧ X.rows = rows'
 | .pan p => out = .pan p ∧ X.rows = rows'
 | .exit _ => False
/-- Parts of a body. -/
def bodyOf (f : Func) : Code := match f.body with
 | some c => c
 | none => .skip
def seqB : Code → Code
 | .seq _ b => b
 | c => c
/-- A CONTRACT from a body. -/
theorem spec_of_awp (hT : TabOk P T) {f : FuncId} {fn : Func} {c : Code} {args : List PV} {rows rows' : List Row} {out : Out} (hf : P.funcs[f]? = some fn) (hb : fn.body = some c) (hname : (fn.name == "runtime.NumGoroutine") = false)
  (hlen : rows.length ≤ rows'.length) (hN : N = args.length + (fn.ntmps - args.length))
  (h : AWp [] P G N rows.length c (RetPost T fn out rows') ⟨argEnv 0 args, rows⟩) : Spec P G f args rows out rows' := by
 refine ⟨fun av0 w => ?_, hlen, fun H lim w vs hrows hglob hvs => ?_⟩
 ·have hne : ¬ fn.name = "runtime.NumGoroutine" := by simpa using hname
  simp [callFunc, hf, hne, hb, program, Sem.run]
 have hvl : vs.length = args.length := Vs_length hvs
 refine calls_of_wp hf hb (wp_mono (h H lim _ w ⟨fun j p hj => ?_, hrows, hglob, rfl, ?_⟩) ?_)
 ·obtain ⟨_, hj⟩ := argEnv_look hj
  obtain ⟨v, h1, h2⟩ := Vs_get hvs hj
  simp only [Nat.sub_zero] at h1
  have hlt := (List.getElem?_eq_some_iff.1 h1).1
  refine ⟨by omega, ?_⟩
  have : ((vs.toArray ++ Array.replicate (fn.ntmps - vs.toArray.size) undef).getD j undef) = v := by
   rw [Array.getD_eq_getD_getElem?, Array.getElem?_append_left (by simpa using hlt)]
   simp [h1]
  rw [this]
  exact h2
 ·simp [hN, hvl]
 intro e a' w' hp
 have key : ∀ X' H' lim', Rep [] G N H' lim' X' a' w' → Lk rows.length H lim w H' lim' w' → (∃ ps, aResults T X' fn.results.toList = some ps ∧ out = .ret (resOf ps) ∧ X'.rows = rows') →
   a'.defers = [] ∧ ∃ v, (results fn a'.tmps).run P w' = .ok v w' ∧ (∃ (H' : Nat → Option Value) (lim' : Nat → Nat), RowsOk H' lim' w' rows' ∧ Fr (Bl H) lim w lim' w' ∧ (∀ id v, stay v = true → H id = some v → H' id = H id) ∧ (∀ b, Bl H' b → Bl H b ∨ w.heap.size ≤ b) ∧
    OutOk H' lim' w' out (.returned v)) := by
  intro X' H' lim' hR lk ⟨ps, q1, q2, q3⟩
  refine ⟨hR.defers, ?_⟩
  obtain ⟨us, r1, r2⟩ := aResults_sound (P := P) hT hR _ _ q1
  have hl := Vs_length r2
  have hptr : ∀ id v, stay v = true → H id = some v → H' id = H id := fun id q hst hq => by
   rcases Nat.lt_or_ge id rows.length with hlt | hlt
   ·exact lk.ptr id q hlt hst hq
   rw [hrows.dom id hlt] at hq; cases hq
  have hres : (results fn a'.tmps).run P w' = .ok (if h : us.length = 1 then us[0] else .tuple us.toArray) w' := by
   unfold results
   have : ∀ (g : ResultVar → Sem Value), (fn.results.mapM g).run P w' = ((fn.results.toList.mapM g).run P w').andThen fun l w => .ok l.toArray w := by
    intro g
    rw [← Array.toArray_toList (xs := fn.results), List.mapM_toArray]
    simp only [List.toList_toArray]
    show Sem.run P (List.mapM g fn.results.toList >>= fun x => pure x.toArray) w' = _
    rw [Sem.run_bind]
    rfl
   rw [Sem.run_bind, this]
   erw [r1]
   simp [Result.andThen]
  refine ⟨_, hres, H', lim', q3 ▸ hR.rows, lk.fr, hptr, lk.blocks, ?_⟩
  subst q2
  refine ⟨_, rfl, ?_⟩
  cases ps with
  | nil =>
   simp only [Vs] at r2
   subst r2
   simp only [resOf, V]
   exact ⟨[], rfl, by simp only [Vs]⟩
  | cons p ps =>
   cases ps with
   | nil =>
    simp only [Vs] at r2
    obtain ⟨u, us', rfl, h1, rfl⟩ := r2
    simpa [resOf] using h1
   | cons q ps =>
    have hne : ¬ us.length = 1 := by simp at hl; omega
    rw [dif_neg hne]
    simp only [resOf, V]
    exact ⟨us, rfl, r2⟩
 cases e <;> simp only [Post, bodyPost] at hp ⊢
 ·obtain ⟨X', H', lim', h1, h2, h3⟩ := hp
  exact key X' H' lim' h1 h2 h3
 ·obtain ⟨X', H', lim', h1, h2, h3⟩ := hp
  exact h3
 ·obtain ⟨X', H', lim', h1, h2, h3⟩ := hp
  exact key X' H' lim' h1 h2 h3
 obtain ⟨X', H', lim', v, p, rfl, h2, h3, h4, h5, h6, h7⟩ := hp
 refine ⟨h4, H', lim', h7 ▸ h2, h5.fr, fun id q hst hq => ?_, h5.blocks, ?_⟩
 ·rcases Nat.lt_or_ge id rows.length with hlt | hlt
  ·exact h5.ptr id q hlt hst hq
  rw [hrows.dom id hlt] at hq; cases hq
 subst h6
 exact ⟨v, rfl, h3⟩
end
end Go.Abs
end
section
namespace Go.Abs
open Go

def tkOf : TypeDesc → Option TK
 | .int k => some (.int k)
 | .bool => some .bool
 | .string => some .string
 | .slice e => some (.slice e)
 | .pointer e => some (.ptr e)
 | .struct fs => some (.struct (fs.toList.map fun f => (f.offset, f.type)))
 | .interface _ => some .iface
 | .map k v => some (.map k v)
 | .func .. => some .func
 | _ => none
def tabOf (P : Program) : Tab := fun t => match P.underlying t with
 | some d => match tkOf d with
  | some tk => match P.info? t with
   | some ti => match ti.zero with
    | some z => match aggV z == tk.agg with
     | true => some { desc := tk, size := ti.size, bytes := ti.bytes, zero := z.cells.toList }
     | false => none
    | none => none
   | none => none
  | none => none
 | none => none
theorem tkOf_ok {d : TypeDesc} {tk : TK} (h : tkOf d = some tk) : TKOk tk d := by
 cases d <;> simp only [tkOf, Option.some.injEq] at h
 all_goals first
  | (subst h; rfl)
  | (subst h; exact ⟨_, rfl, rfl⟩)
  | (subst h; exact ⟨_, _, _, rfl⟩)
  | (subst h; exact ⟨_, rfl⟩)
  | cases h
theorem tabOf_ok (P : Program) : TabOk P (tabOf P) := by
 intro t i h
 unfold tabOf at h
 split at h
 ·rename_i d hd
  split at h
  ·rename_i tk htk
   split at h
   ·rename_i ti hti
    split at h
    ·rename_i z hz
     split at h
     ·rename_i hag
      simp only [Option.some.injEq] at h
      subst h
      exact ⟨⟨d, hd, tkOf_ok htk⟩, ti, hti, rfl, rfl, z, hz, rfl, eq_of_beq hag⟩
     cases h
    cases h
   cases h
  cases h
 cases h
/-- Rows of twenty. -/
def tabC (l : List (List (Option TI))) : Tab := fun t => match l[t / 20]? with
 | some c => match c[t % 20]? with
  | some o => o
  | none => none
 | none => none
def memB (l : List Nat) (t : Nat) : Bool := match l with
 | [] => false
 | x :: r => match Nat.beq x t with
  | true => true
  | false => memB r t
/-- The types of a list alone. -/
def tabU (P : Program) (u : List Nat) : Tab := fun t => match memB u t with
 | true => tabOf P t
 | false => none
theorem tabU_ok {P : Program} {u : List Nat} {l : List (List (Option TI))} (h : (List.range l.length).map (fun q => (List.range 20).map fun r => tabU P u (q * 20 + r)) = l) : TabOk P (tabC l) := by
 intro t i ht
 unfold tabC at ht
 split at ht
 ·rename_i c hc
  split at ht
  ·rename_i o ho
   subst ht
   have hlt := (List.getElem?_eq_some_iff.1 hc).1
   have h1 : ((List.range l.length).map (fun q => (List.range 20).map fun r => tabU P u (q * 20 + r)))[t / 20]? = some c := by rw [h]; exact hc
   rw [List.getElem?_map, List.getElem?_range hlt] at h1
   simp only [Option.map_some, Option.some.injEq] at h1
   rw [← h1, List.getElem?_map, List.getElem?_range (Nat.mod_lt _ (by decide))] at ho
   simp only [Option.map_some, Option.some.injEq] at ho
   rw [Nat.mul_comm, Nat.div_add_mod] at ho
   unfold tabU at ho
   split at ho
   ·exact tabOf_ok P t i ho
   cases ho
  cases ht
 cases ht
end Go.Abs
end
section
namespace Go.Abs
open Go
abbrev vs0 : Value := Value.string { data := { toList := [] } }
abbrev ti (d : TK) (s b : Nat) (z : List Value) : Option TI := some { desc := d, size := s, bytes := b, zero := z }
def tryzUsed : List Nat := [1, 2, 3, 4, 5, 9, 17, 20, 21, 23, 24, 25, 26, 28, 30, 33, 34, 35, 37, 39, 55, 56, 58, 59, 60, 62, 64, 67, 69, 74, 76, 82, 99, 101, 105, 108, 109, 118, 121, 122, 123, 125, 127, 128, 130, 132, 134, 135, 138, 143, 145, 148, 157, 159, 161, 162, 163, 165, 167, 169, 179, 184, 185, 186, 188, 189, 191, 196, 200, 205, 207, 212, 213, 215, 217, 219, 226, 228, 234, 238, 239, 244, 246, 256, 259, 261, 262, 269, 273, 275, 279, 282, 286, 288, 306, 307, 309, 312, 314, 336, 343, 345, 373, 380, 384, 386, 388, 391, 397, 398, 401, 402, 406, 409, 411, 412, 413]
noncomputable def tryzTab : List (List (Option TI)) := [
 [none, ti (.func) 1 8 [.nilFunc], ti (.int .i64) 1 8 [.int .i64 0], ti (.int .i64) 1 8 [.int .i64 0], ti (.bool) 1 1 [.bool false], ti (.int .u8) 1 1 [.int .u8 0], none, none, none, ti (.string) 1 16 [vs0], none, none, none, none, none, none, none, ti (.ptr 425) 1 8 [.pointer none], none, none],
 [ti (.iface) 1 16 [.nilIface], ti (.int .i32) 1 4 [.int .i32 0], none, ti (.slice 9) 1 24 [.slice none 0 0], ti (.slice 169) 1 24 [.slice none 0 0], ti (.slice 159) 1 24 [.slice none 0 0], ti (.slice 217) 1 24 [.slice none 0 0], none, ti (.struct [(0, 23), (1, 24), (2, 25), (3, 26)]) 4 96 [.slice none 0 0, .slice none 0 0, .slice none 0 0, .slice none 0 0], none, ti (.iface) 1 16 [.nilIface], none, none, ti (.slice 99) 1 24 [.slice none 0 0], ti (.slice 145) 1 24 [.slice none 0 0], ti (.slice 228) 1 24 [.slice none 0 0], none, ti (.struct [(0, 23), (1, 33), (2, 34), (3, 35)]) 4 96 [.slice none 0 0, .slice none 0 0, .slice none 0 0, .slice none 0 0], none, ti (.struct [(0, 3), (1, 3)]) 2 16 [.int .i64 0, .int .i64 0]],
 [none, none, none, none, none, none, none, none, none, none, none, none, none, none, none, ti (.slice 64) 1 24 [.slice none 0 0], ti (.slice 3) 1 24 [.slice none 0 0], none, ti (.struct [(0, 23), (1, 33), (2, 3), (3, 55), (4, 56)]) 5 104 [.slice none 0 0, .slice none 0 0, .int .i64 0, .slice none 0 0, .slice none 0 0], ti (.slice 143) 1 24 [.slice none 0 0]],
 [ti (.slice 288) 1 24 [.slice none 0 0], none, ti (.struct [(0, 9), (1, 9), (2, 59), (3, 60)]) 4 80 [vs0, vs0, .slice none 0 0, .slice none 0 0], none, ti (.struct [(0, 3), (1, 3), (2, 62)]) 6 96 [.int .i64 0, .int .i64 0, vs0, vs0, .slice none 0 0, .slice none 0 0], none, none, ti (.slice 127) 1 24 [.slice none 0 0], none, ti (.struct [(0, 23), (1, 24), (2, 3), (3, 67), (4, 56)]) 5 104 [.slice none 0 0, .slice none 0 0, .int .i64 0, .slice none 0 0, .slice none 0 0], none, none, none, none, ti (.slice 56) 1 24 [.slice none 0 0], none, ti (.struct [(0, 9), (1, 3), (2, 56), (3, 74)]) 4 72 [vs0, .int .i64 0, .slice none 0 0, .slice none 0 0], none, none, none],
 [none, none, ti (.struct [(0, 9), (1, 3), (2, 56), (3, 74)]) 4 72 [vs0, .int .i64 0, .slice none 0 0, .slice none 0 0], none, none, none, none, none, none, none, none, none, none, none, none, none, none, none, none, ti (.struct [(0, 9), (1, 3)]) 2 24 [vs0, .int .i64 0]],
 [none, ti (.slice 108) 1 24 [.slice none 0 0], none, none, none, ti (.slice 109) 1 24 [.slice none 0 0], none, none, ti (.struct [(0, 3), (1, 3), (2, 56), (3, 74)]) 4 64 [.int .i64 0, .int .i64 0, .slice none 0 0, .slice none 0 0], ti (.struct [(0, 3), (1, 3), (2, 56), (3, 74)]) 4 64 [.int .i64 0, .int .i64 0, .slice none 0 0, .slice none 0 0], none, none, none, none, none, none, none, none, ti (.slice 121) 1 24 [.slice none 0 0], none],
 [none, ti (.struct [(0, 3), (1, 3), (2, 56), (3, 74)]) 4 64 [.int .i64 0, .int .i64 0, .slice none 0 0, .slice none 0 0], ti (.slice 157) 1 24 [.slice none 0 0], ti (.slice 282) 1 24 [.slice none 0 0], none, ti (.struct [(0, 9), (1, 9), (2, 122), (3, 123)]) 4 80 [vs0, vs0, .slice none 0 0, .slice none 0 0], none, ti (.struct [(0, 3), (1, 3), (2, 125)]) 6 96 [.int .i64 0, .int .i64 0, vs0, vs0, .slice none 0 0, .slice none 0 0], ti (.ptr 261) 1 8 [.pointer none], none, ti (.ptr 132) 1 8 [.pointer none], none, ti (.struct [(0, 9), (1, 3), (2, 9)]) 3 40 [vs0, .int .i64 0, vs0], none, ti (.ptr 138) 1 8 [.pointer none], ti (.slice 256) 1 24 [.slice none 0 0], none, none, ti (.struct [(0, 135), (1, 3), (2, 39)]) 4 48 [.slice none 0 0, .int .i64 0, .int .i64 0, .int .i64 0], none],
 [none, none, none, ti (.struct [(0, 9), (1, 3), (2, 9), (3, 59)]) 4 64 [vs0, .int .i64 0, vs0, .slice none 0 0], none, ti (.struct [(0, 9), (1, 23), (2, 35), (3, 143)]) 7 128 [vs0, .slice none 0 0, .slice none 0 0, vs0, .int .i64 0, vs0, .slice none 0 0], none, none, ti (.func) 1 8 [.nilFunc], none, none, none, none, none, none, none, none, ti (.struct [(0, 9), (1, 3), (2, 9), (3, 122)]) 4 64 [vs0, .int .i64 0, vs0, .slice none 0 0], none, ti (.struct [(0, 9), (1, 23), (2, 26), (3, 157)]) 7 128 [vs0, .slice none 0 0, .slice none 0 0, vs0, .int .i64 0, vs0, .slice none 0 0]],
 [none, ti (.ptr 167) 1 8 [.pointer none], ti (.ptr 165) 1 8 [.pointer none], ti (.slice 5) 1 24 [.slice none 0 0], none, ti (.struct [(0, 162), (1, 163)]) 2 32 [.pointer none, .slice none 0 0], none, ti (.struct [(0, 165), (2, 3), (3, 4), (4, 3)]) 5 56 [.pointer none, .slice none 0 0, .int .i64 0, .bool false, .int .i64 0], none, ti (.struct [(0, 9), (1, 3)]) 2 24 [vs0, .int .i64 0], none, none, none, none, none, none, none, none, none, ti (.slice 4) 1 24 [.slice none 0 0]],
 [none, none, none, none, ti (.ptr 191) 1 8 [.pointer none], ti (.map 9 3) 1 8 [.map none], ti (.map 9 56) 1 8 [.map none], none, ti (.struct [(0, 185), (1, 186)]) 2 16 [.map none, .map none], ti (.map 9 159) 1 8 [.map none], none, ti (.struct [(0, 188), (2, 189), (3, 56), (4, 3), (5, 3)]) 6 64 [.map none, .map none, .map none, .slice none 0 0, .int .i64 0, .int .i64 0], none, none, none, none, ti (.struct [(0, 23), (1, 23), (2, 25)]) 3 72 [.slice none 0 0, .slice none 0 0, .slice none 0 0], none, none, none],
 [ti (.func) 1 8 [.nilFunc], none, none, none, none, ti (.ptr 207) 1 8 [.pointer none], none, ti (.struct [(0, 25), (1, 3)]) 2 32 [.slice none 0 0, .int .i64 0], none, none, none, none, ti (.map 9 4) 1 8 [.map none], ti (.func) 1 8 [.nilFunc], none, ti (.slice 123) 1 24 [.slice none 0 0], none, ti (.struct [(0, 9), (1, 9), (2, 9), (3, 122), (4, 215), (5, 26), (6, 26)]) 7 144 [vs0, vs0, vs0, .slice none 0 0, .slice none 0 0, .slice none 0 0, .slice none 0 0], none, ti (.func) 1 8 [.nilFunc]],
 [none, none, none, none, none, none, ti (.slice 60) 1 24 [.slice none 0 0], none, ti (.struct [(0, 9), (1, 9), (2, 9), (3, 59), (4, 226), (5, 35), (6, 35)]) 7 144 [vs0, vs0, vs0, .slice none 0 0, .slice none 0 0, .slice none 0 0, .slice none 0 0], none, none, none, none, none, ti (.ptr 238) 1 8 [.pointer none], none, none, none, ti (.struct [(0, 23), (1, 56), (2, 33), (3, 74), (4, 34), (5, 56), (6, 3), (7, 3), (8, 9)]) 9 176 [.slice none 0 0, .slice none 0 0, .slice none 0 0, .slice none 0 0, .slice none 0 0, .slice none 0 0, .int .i64 0, .int .i64 0, vs0], ti (.ptr 58) 1 8 [.pointer none]],
 [none, none, none, none, ti (.ptr 246) 1 8 [.pointer none], none, ti (.struct [(0, 69), (5, 4)]) 6 112 [.slice none 0 0, .slice none 0 0, .int .i64 0, .slice none 0 0, .slice none 0 0, .bool false], none, none, none, none, none, none, none, none, none, ti (.struct [(0, 9), (1, 3)]) 2 24 [vs0, .int .i64 0], none, none, ti (.ptr 128) 1 8 [.pointer none]],
 [none, ti (.struct [(0, 3), (1, 30)]) 2 24 [.int .i64 0, .nilIface], ti (.slice 30) 1 24 [.slice none 0 0], none, none, none, none, none, none, ti (.ptr 5) 1 8 [.pointer none], none, none, none, ti (.string) 1 16 [vs0], none, ti (.slice 23) 1 24 [.slice none 0 0], none, none, none, ti (.func) 1 8 [.nilFunc]],
 [none, none, ti (.struct [(0, 157), (4, 9), (5, 157)]) 9 144 [vs0, .int .i64 0, vs0, .slice none 0 0, vs0, vs0, .int .i64 0, vs0, .slice none 0 0], none, none, none, ti (.int .u64) 1 8 [.int .u64 0], none, ti (.struct [(0, 143), (4, 9), (5, 143)]) 9 144 [vs0, .int .i64 0, vs0, .slice none 0 0, vs0, vs0, .int .i64 0, vs0, .slice none 0 0], none, none, none, none, none, none, none, none, none, none, none],
 [none, none, none, none, none, none, none, ti (.int .u64) 1 8 [.int .u64 0], none, ti (.struct [(0, 17), (1, 306), (2, 307)]) 3 24 [.pointer none, .pointer none, .int .u64 0], none, none, ti (.iface) 1 16 [.nilIface], none, ti (.int .u8) 1 1 [.int .u8 0], none, none, none, none, none],
 [none, none, none, none, none, none, none, none, none, none, none, none, none, none, none, none, ti (.int .i64) 1 8 [.int .i64 0], none, none, none],
 [none, none, none, ti (.int .u32) 1 4 [.int .u32 0], none, ti (.int .u64) 1 8 [.int .u64 0], none, none, none, none, none, none, none, none, none, none, none, none, none, none],
 [none, none, none, none, none, none, none, none, none, none, none, none, none, none, none, none, none, none, none, none],
 [ti (.int .u64) 1 8 [.int .u64 0], none, none, none, ti (.ptr 3) 1 8 [.pointer none], none, ti (.map 9 9) 1 8 [.map none], none, ti (.int .i64) 1 8 [.int .i64 0], none, none, ti (.ptr 406) 1 8 [.pointer none], none, none, none, none, none, none, none, none],
 [none, none, ti (.slice 401) 1 24 [.slice none 0 0], none, none, none, ti (.struct [(0, 9), (1, 9), (2, 30)]) 3 48 [vs0, vs0, .nilIface], none, none, ti (.ptr 411) 1 8 [.pointer none], none, ti (.struct [(0, 9)]) 1 16 [vs0], none, none, none, none, none, none, none, none],
 [none, none, none, none, none, none, none, none, none, none, none, none, none, none, none, none, none, none, none, none]]
noncomputable abbrev TT : Tab := tabC tryzTab
theorem TT_ok : TabOk Go.Proofs.Tryz.prog TT := tabU_ok (u := tryzUsed) (by kernel_rfl)
theorem rgn {D : List Deferred} {G : Glob} {N B : Nat} {X : St} {ops : Array Oper} {id : Nat} {Q : AExit → St → Prop} (h : ∀ (pan : PV → St → Prop) (K : St → Prop), (∀ p X, Q (.pan p) X → pan p X) → (∀ X, Q .normal X → K X) → aops Go.Proofs.Tryz.prog TT G N ops pan (List.range ops.size) K X) : AWp D Go.Proofs.Tryz.prog G N B (.region id ops false) Q X := awp_region_k TT_ok h
theorem rgs {D : List Deferred} {G : Glob} {N B : Nat} {X : St} {ops : Array Oper} {id : Nat} {y : Code} {Q : AExit → St → Prop} (h : ∀ (pan : PV → St → Prop) (K : St → Prop), (∀ p X, Then (AWp D Go.Proofs.Tryz.prog G N B y Q) Q (.pan p) X → pan p X) → (∀ X, Then (AWp D Go.Proofs.Tryz.prog G N B y Q) Q .normal X → K X) → aops Go.Proofs.Tryz.prog TT G N ops pan (List.range ops.size) K X) : AWp D Go.Proofs.Tryz.prog G N B (.seq (.region id ops false) y) Q X := awp_seq (rgn h)
theorem aN {D : List Deferred} {G : Glob} {N B : Nat} {X : St} {c : Code} {Q : AExit → St → Prop} (slots : List Nat) {env' : List (Nat × PV)} {rows' : List Row} (h1 : pickEnv X.env slots = some env') (h2 : forceRows X.rows = some rows') (h : AWp D Go.Proofs.Tryz.prog G N B c Q ⟨env', rows'⟩) : AWp D Go.Proofs.Tryz.prog G N B c Q X := awp_norm slots h1 h2 h
theorem aR {P : Program} {G : Glob} {X : St} (L : List Nat) {f : FuncId} {ps args' : List PV} {rowsL rowsL' rows1 rows2 : List Row} {p p' : PV} {env' : List (Nat × PV)} {k : PV → St → List Nat → Prop} {pan : PV → St → Prop} (hL : nodupB L = true) (hin : PV.subs (sIn L X.rows) ps = some args') (hrows : pickRows (sIn L X.rows) X.rows L = some rowsL) (hs : Spec P G f args' rowsL (.ret p) rowsL') (hout : demRows (sOut L X.rows.length) rowsL' = some rows2) (henv : demEnv (sKeep L X.rows) X.env = some env') (hk : demRows (sKeep L X.rows) X.rows = some rows1) (hp : PV.sub (sOut L X.rows.length) p = some p') (h : k p' ⟨env', place L rows1 rows2⟩ L) : aCall P G X f ps k pan := aCall_ret hL hin hrows hs hout henv hk hp h
theorem aP {P : Program} {G : Glob} {X : St} (L : List Nat) {f : FuncId} {ps args' : List PV} {rowsL rowsL' rows1 rows2 : List Row} {p p' : PV} {env' : List (Nat × PV)} {k : PV → St → List Nat → Prop} {pan : PV → St → Prop} (hL : nodupB L = true) (hin : PV.subs (sIn L X.rows) ps = some args') (hrows : pickRows (sIn L X.rows) X.rows L = some rowsL) (hs : Spec P G f args' rowsL (.pan p) rowsL') (hout : demRows (sOut L X.rows.length) rowsL' = some rows2) (henv : demEnv (sKeep L X.rows) X.env = some env') (hk : demRows (sKeep L X.rows) X.rows = some rows1) (hp : PV.sub (sOut L X.rows.length) p = some p') (h : pan p' ⟨env', place L rows1 rows2⟩) : aCall P G X f ps k pan := aCall_pan hL hin hrows hs hout henv hk hp h
theorem bz : (∀ b, (true || b) = true) ∧ (∀ b, (false || b) = b) ∧ (∀ b, (b || true) = true) ∧ (∀ b, (b || false) = b) ∧ ((!true) = false) ∧ ((!false) = true) ∧ (∀ b, (true && b) = b) ∧ (∀ b, (false && b) = false) ∧ (∀ b, (b && false) = false) ∧ (∀ b, (b && true) = b) ∧ (∀ b, (b || b) = b) ∧ (∀ b, (b && b) = b) := ⟨Bool.true_or, Bool.false_or, Bool.or_true, Bool.or_false, Bool.not_true, Bool.not_false, Bool.true_and, Bool.false_and, Bool.and_false, Bool.and_true, Bool.or_self, Bool.and_self⟩
theorem bn : (∀ b, (true || b) = true) ∧ (∀ b, (false || b) = b) ∧ (∀ b, (b || true) = true) ∧ (∀ b, (b || false) = b) ∧ ((!true) = false) ∧ ((!false) = true) ∧ (∀ b, (true && b) = b) ∧ (∀ b, (false && b) = false) ∧ (∀ b, (b && false) = false) ∧ (∀ b, (b && true) = b) ∧ (∀ b, (!!b) = b) := ⟨Bool.true_or, Bool.false_or, Bool.or_true, Bool.or_false, Bool.not_true, Bool.not_false, Bool.true_and, Bool.false_and, Bool.and_false, Bool.and_true, Bool.not_not⟩
end Go.Abs
end
section
namespace Go.Abs.PrintLast
open Go

section
variable {P : Program} {ops : Array Oper} {Q : Exit → Act → World → Prop} {md : Region.Mode} {S : World → Prop} {ds : List Nat}

/-- Operation d waits for operation i, by a chain of at most 'fuel' edges. -/
def Region.reachB (md : Region.Mode) (ops : Array Oper) (i : Nat) : Nat → Nat → Bool
 | 0, _ => false
 | fuel + 1, d => match ops[d]? with
  | some o => o.after.any fun e => Region.binds md e && (e.on == i || Region.reachB md ops i fuel e.on)
  | none => false

/-- What is listed is closed under the edges. -/
def Region.closedB (md : Region.Mode) (ops : Array Oper) (listed : Array Bool) : Bool :=
 (List.range ops.size).all fun j => !listed.getD j false || match ops[j]? with
  | some o => o.after.all fun e => !Region.binds md e || listed.getD e.on false
  | none => true

/-- Each of ds that has not come up yet waits for number i. -/
def Region.lastB (md : Region.Mode) (ops : Array Oper) (listed : Array Bool) (ds : List Nat) (i : Nat) : Bool :=
 ds.all fun d => listed.getD d true || Region.reachB md ops i ops.size d

def ListedClosed (md : Region.Mode) (ops : Array Oper) (listed : Array Bool) : Prop :=
 ∀ j oj, ops[j]? = some oj → listed.getD j false = true → ∀ e ∈ oj.after, Region.binds md e = true → listed.getD e.on false = true

theorem Region.closedB_spec {listed : Array Bool} (h : Region.closedB md ops listed = true) : ListedClosed md ops listed := by
 intro j oj hj hl e he hb
 have hlt : j < ops.size := (Array.getElem?_eq_some_iff.1 hj).1
 have h1 := List.all_eq_true.1 h j (List.mem_range.2 hlt)
 simp only [hl, hj, Bool.not_true, Bool.false_or] at h1
 have h2 := Array.all_eq_true_iff_forall_mem.1 h1 e he
 simpa [hb] using h2

theorem ListedClosed.set {listed : Array Bool} {i : Nat} (h : ListedClosed md ops listed) (hi : i ∈ Region.ready md ops listed) : ListedClosed md ops (listed.setIfInBounds i true) := by
 obtain ⟨_, oi, hoi, hall⟩ := mem_ready.1 hi
 intro j oj hj hl e he hb
 by_cases hij : i = j
 ·subst hij
  have : oj = oi := Option.some.inj (hj.symm.trans hoi)
  subst this
  exact getD_set_true (hall e he hb)
 rw [getD_set_ne false hij] at hl
 exact getD_set_true (h j oj hj hl e he hb)

theorem Region.reach_listed {listed : Array Bool} {i : Nat} (hc : ListedClosed md ops listed) : ∀ (fuel d : Nat), Region.reachB md ops i fuel d = true → listed.getD d false = true → listed.getD i false = true
 | 0, _, h, _ => by simp [Region.reachB] at h
 | fuel + 1, d, h, hl => by
  unfold Region.reachB at h
  cases ho : ops[d]? with
  | none => rw [ho] at h; simp at h
  | some o =>
   rw [ho] at h
   obtain ⟨e, he, h1⟩ := Array.any_eq_true'.1 h
   simp only [Bool.and_eq_true, Bool.or_eq_true, beq_iff_eq] at h1
   have hle := hc d o ho hl e he h1.1
   rcases h1.2 with h2 | h2
   ·rw [← h2]; exact hle
   exact Region.reach_listed hc fuel e.on h2 hle

/-- What waits for i cannot come up before i is listed. -/
theorem Region.reach_not_ready {listed : Array Bool} {i d fuel : Nat} (hc : ListedClosed md ops listed) (hr : Region.reachB md ops i fuel d = true) (hun : listed.getD i true = false) : d ∉ Region.ready md ops listed := by
 intro hd
 obtain ⟨_, o, ho, hall⟩ := mem_ready.1 hd
 have hi : listed.getD i false = true := by
  cases fuel with
  | zero => simp [Region.reachB] at hr
  | succ n =>
   unfold Region.reachB at hr
   rw [ho] at hr
   obtain ⟨e, he, h1⟩ := Array.any_eq_true'.1 hr
   simp only [Bool.and_eq_true, Bool.or_eq_true, beq_iff_eq] at h1
   have hle := hall e he h1.1
   rcases h1.2 with h2 | h2
   ·rw [← h2]; exact hle
   exact Region.reach_listed hc n e.on h2 hle
 rcases Nat.lt_or_ge i listed.size with h' | h'
 ·simp [h'] at hun hi
  rw [hun] at hi
  cases hi
 simp [Array.getElem?_eq_none h'] at hun

/-- Whatever order is picked from here on, AND 'S' HOLDS BEHIND EVERY OPERATION THAT IS CARRIED OUT, those of ds apart. -/
def wpAnyLast (P : Program) (md : Region.Mode) (ops : Array Oper) (Q : Exit → Act → World → Prop) (S : World → Prop) (ds : List Nat) : Nat → Array Bool → Act → World → Prop
 | 0, listed, a, w => Region.ready md ops listed = [] ∧ Q .normal a w
 | fuel + 1, listed, a, w =>
  (Region.ready md ops listed = [] → Q .normal a w) ∧
  ∀ i ∈ Region.ready md ops listed, wpOp P ops Q i (fun a' w' => (i ∉ ds → S w → S w') ∧ wpAnyLast P md ops Q S ds fuel (listed.setIfInBounds i true) a' w') a w

theorem wpAny_of_last : ∀ (fuel : Nat) (listed : Array Bool) (a : Act) (w : World), wpAnyLast P md ops Q S ds fuel listed a w → wpAny P md ops Q fuel listed a w
 | 0, _, _, _, h => h
 | fuel + 1, _, _, _, h => ⟨h.1, fun i hi => wpOp_mono (fun a' w' h' => wpAny_of_last fuel _ a' w' h'.2) (h.2 i hi)⟩

theorem wpAnyLast_first {i : Nat} {oi : Oper} {v : Value} (hi : ops[i]? = some oi) (hsel : ∀ (j : Nat) (o : Oper) cs b, ops[j]? = some o → o.op ≠ .select cs b)
  (hQ : ∀ c a w, Q (.panic c) (a.put oi.dst v) w → Q (.panic c) a w) (n : Nat) :
  ∀ (fuel : Nat) (listed : Array Bool) (a : Act) (w : World),
   (∀ j oj, ops[j]? = some oj → j ≠ i → listed.getD j true = false → (∀ e ∈ oj.after, Region.binds md e = true → e.on ≠ i) → oi.apart ops oj = true) →
   ListedClosed md ops listed → (∀ d ∈ ds, listed.getD d true = false → Region.reachB md ops i n d = true) →
   i ∈ Region.ready md ops listed → YieldsIf P ops S oi v a → S w →
   wpAnyLast P md ops Q S ds fuel (listed.setIfInBounds i true) (a.put oi.dst v) w → wpAnyLast P md ops Q S ds (fuel + 1) listed a w := by
 intro fuel
 induction fuel with
 | zero =>
  intro listed a w _ _ _ hr hy hS H
  refine ⟨fun h => (by rw [h] at hr; cases hr), fun j hj => ?_⟩
  by_cases hji : j = i
  ·subst hji; exact hy.wpOp hi hS ⟨fun _ h => h, H⟩
  have := ready_mono hj hji
  rw [H.1] at this
  cases this
 | succ fuel ih =>
  intro listed a w hfree hc hd hr hy hS H
  refine ⟨fun h => (by rw [h] at hr; cases hr), fun j hj => ?_⟩
  by_cases hji : j = i
  ·subst hji; exact hy.wpOp hi hS ⟨fun _ h => h, H⟩
  have h1 := H.2 j (ready_mono hj hji)
  obtain ⟨hjun, oj, hoj, hall⟩ := mem_ready.1 hj
  have hiun := (mem_ready.1 hr).1
  have hnot : ∀ e ∈ oj.after, Region.binds md e = true → e.on ≠ i := fun e he hb heq => by
   have h1 := hall e he hb
   rw [heq] at h1
   rcases Nat.lt_or_ge i listed.size with h' | h'
   ·simp [h'] at hiun h1; rw [hiun] at h1; cases h1
   simp [Array.getElem?_eq_none h'] at h1
  have hjd : j ∉ ds := fun hm => Region.reach_not_ready hc (hd j hm hjun) hiun hj
  have h2 := wpOp_putIf hoj (hfree j oj hoj hji hjun hnot) (fun cs b => hsel i oi cs b hi) (fun cs b => hsel j oj cs b hoj) hQ hy h1
  have hfree' : ∀ k ok, ops[k]? = some ok → k ≠ i → (listed.setIfInBounds j true).getD k true = false →
    (∀ e ∈ ok.after, Region.binds md e = true → e.on ≠ i) → oi.apart ops ok = true := fun k ok hk hki hun hno => by
   refine hfree k ok hk hki ?_ hno
   by_cases hjk : j = k
   ·subst hjk; exact hjun
   rw [getD_set_ne true hjk] at hun; exact hun
  have hd' : ∀ d ∈ ds, (listed.setIfInBounds j true).getD d true = false → Region.reachB md ops i n d = true := fun d hm hun => by
   refine hd d hm ?_
   by_cases hjk : j = d
   ·subst hjk; exact hjun
   rw [getD_set_ne true hjk] at hun; exact hun
  refine wpOp_mono (fun a' w' h3 => ⟨h3.2.1, ih (listed.setIfInBounds j true) a' w' hfree' (hc.set hj) hd' (ready_mono hr (Ne.symm hji)) h3.1 (h3.2.1 hjd hS) ?_⟩) h2
  rw [Array.setIfInBounds_comm _ _ hji]
  exact h3.2.2

/-- Take number 'i' first, which yields whatever the world: no S is asked for, nor that anything waits for it. -/
theorem wpAnyLast_any {i : Nat} {oi : Oper} {v : Value} (hi : ops[i]? = some oi) (hsel : ∀ (j : Nat) (o : Oper) cs b, ops[j]? = some o → o.op ≠ .select cs b)
  (hQ : ∀ c a w, Q (.panic c) (a.put oi.dst v) w → Q (.panic c) a w) :
  ∀ (fuel : Nat) (listed : Array Bool) (a : Act) (w : World),
   (∀ j oj, ops[j]? = some oj → j ≠ i → listed.getD j true = false → (∀ e ∈ oj.after, Region.binds md e = true → e.on ≠ i) → oi.apart ops oj = true) →
   i ∈ Region.ready md ops listed → Yields P ops oi v a →
   wpAnyLast P md ops Q S ds fuel (listed.setIfInBounds i true) (a.put oi.dst v) w → wpAnyLast P md ops Q S ds (fuel + 1) listed a w := by
 intro fuel
 induction fuel with
 | zero =>
  intro listed a w _ hr hy H
  refine ⟨fun h => (by rw [h] at hr; cases hr), fun j hj => ?_⟩
  by_cases hji : j = i
  ·subst hji; exact (hy.yieldsIf (S := fun _ => True)).wpOp hi trivial ⟨fun _ h => h, H⟩
  have := ready_mono hj hji
  rw [H.1] at this
  cases this
 | succ fuel ih =>
  intro listed a w hfree hr hy H
  refine ⟨fun h => (by rw [h] at hr; cases hr), fun j hj => ?_⟩
  by_cases hji : j = i
  ·subst hji; exact (hy.yieldsIf (S := fun _ => True)).wpOp hi trivial ⟨fun _ h => h, H⟩
  have h1 := H.2 j (ready_mono hj hji)
  obtain ⟨hjun, oj, hoj, hall⟩ := mem_ready.1 hj
  have hiun := (mem_ready.1 hr).1
  have hnot : ∀ e ∈ oj.after, Region.binds md e = true → e.on ≠ i := fun e he hb heq => by
   have h1 := hall e he hb
   rw [heq] at h1
   rcases Nat.lt_or_ge i listed.size with h' | h'
   ·simp [h'] at hiun h1; rw [hiun] at h1; cases h1
   simp [Array.getElem?_eq_none h'] at h1
  have h2 := wpOp_put hoj (hfree j oj hoj hji hjun hnot) (fun cs b => hsel i oi cs b hi) (fun cs b => hsel j oj cs b hoj) hQ hy h1
  have hfree' : ∀ k ok, ops[k]? = some ok → k ≠ i → (listed.setIfInBounds j true).getD k true = false →
    (∀ e ∈ ok.after, Region.binds md e = true → e.on ≠ i) → oi.apart ops ok = true := fun k ok hk hki hun hno => by
   refine hfree k ok hk hki ?_ hno
   by_cases hjk : j = k
   ·subst hjk; exact hjun
   rw [getD_set_ne true hjk] at hun; exact hun
  refine wpOp_mono (fun a' w' h3 => ⟨h3.2.1, ih (listed.setIfInBounds j true) a' w' hfree' (ready_mono hr (Ne.symm hji)) h3.1 ?_⟩) h2
  rw [Array.setIfInBounds_comm _ _ hji]
  exact h3.2.2

/-- Take number 'i' first. -/
theorem wpAnyLast_take {i : Nat} {oi : Oper} {v : Value} {fuel : Nat} {listed : Array Bool} {a : Act} {w : World} (hi : ops[i]? = some oi)
  (hs : Region.noSelect ops = true) (hf : Region.free md ops listed i = true) (hr : (Region.ready md ops listed).contains i = true)
  (hc : Region.closedB md ops listed = true) (hl : Region.lastB md ops listed ds i = true)
  (hQ : ∀ c a w, Q (.panic c) (a.put oi.dst v) w → Q (.panic c) a w) (hy : YieldsIf P ops S oi v a) (hS : S w)
  (h : wpAnyLast P md ops Q S ds fuel (listed.setIfInBounds i true) (a.put oi.dst v) w) : wpAnyLast P md ops Q S ds (fuel + 1) listed a w :=
 wpAnyLast_first hi (Region.noSelect_spec hs) hQ ops.size fuel listed a w (Region.free_spec hi hf) (Region.closedB_spec hc)
  (fun d hm hun => by have := List.all_eq_true.1 hl d hm; rw [hun] at this; simpa using this) (by simpa using hr) hy hS h

theorem wpAnyLast_all {rs : List Nat} {fuel : Nat} {listed : Array Bool} {a : Act} {w : World} (hr : Region.ready md ops listed = rs) (hne : rs ≠ [])
  (h : ∀ i ∈ rs, wpOp P ops Q i (fun a' w' => (i ∉ ds → S w → S w') ∧ wpAnyLast P md ops Q S ds fuel (listed.setIfInBounds i true) a' w') a w) : wpAnyLast P md ops Q S ds (fuel + 1) listed a w :=
 ⟨fun h0 => absurd (hr ▸ h0) hne, hr ▸ h⟩

theorem wpAnyLast_done {listed : Array Bool} {a : Act} {w : World} (hr : Region.ready md ops listed = []) (h : Q .normal a w) :
  ∀ fuel, wpAnyLast P md ops Q S ds fuel listed a w
 | 0 => ⟨hr, h⟩
 | _ + 1 => ⟨fun _ => h, by rw [hr]; simp⟩

theorem wp_region_last {id : Nat} {a : Act} {w : World} (hm : P.follows .mixedOrders = true)
  (h : wpAnyLast P .any ops Q S ds ops.size (Array.replicate ops.size false) a { w with drawn := w.drawn + 1 }) : (Code.region id ops true).wp P Q a w :=
 wp_region_any hm (wpAny_of_last _ _ _ _ h)

end
end Go.Abs.PrintLast
end
section
namespace Go.Abs
open Go Go.Abs.PrintLast

/-- done; an operation that reads nothing of memory, taken first; one that loads, taken first; the only one that may come up; one of several. -/
inductive Plan where
 | done
 | take (i : Nat) (r : Plan)
 | load (i : Nat) (r : Plan)
 | one (i : Nat) (r : Plan)
 | alt (i : Nat) (p o : Plan)

def Plan.depth : Plan → Nat
 | .done => 0
 | .take _ r => r.depth + 1
 | .load _ r => r.depth + 1
 | .one _ r => r.depth + 1
 | .alt _ p o => Nat.max (p.depth + 1) o.depth
def Plan.heads : Plan → List Nat
 | .alt i _ o => i :: o.heads
 | _ => []
def takeB (ops : Array Oper) (listed : Array Bool) (i : Nat) : Bool := (Region.ready .any ops listed).contains i && Region.free .any ops listed i
def planOk (ops : Array Oper) (ds : List Nat) : Bool → Array Bool → Bool → Plan → Bool
 | false, listed, _, .done => Region.ready .any ops listed == []
 | true, _, _, .done => true
 | false, listed, fresh, .take i r => takeB ops listed i && planOk ops ds false (listed.setIfInBounds i true) fresh r
 | false, listed, fresh, .load i r => fresh && takeB ops listed i && PrintLast.Region.closedB .any ops listed && PrintLast.Region.lastB .any ops listed ds i && planOk ops ds false (listed.setIfInBounds i true) fresh r
 | false, listed, _, .one i r => (Region.ready .any ops listed == [i]) && planOk ops ds false (listed.setIfInBounds i true) false r
 | false, listed, _, .alt i p o => (Region.ready .any ops listed == i :: o.heads) && planOk ops ds false (listed.setIfInBounds i true) false p && planOk ops ds true listed false o
 | true, listed, _, .alt i p o => planOk ops ds false (listed.setIfInBounds i true) false p && planOk ops ds true listed false o
 | true, _, _, _ => false

def noneOf (KB : Nat → Bool) : List Nat → Bool
 | [] => true
 | x :: r => match KB x with
  | true => false
  | false => noneOf KB r
def footOk (KB : Nat → Bool) (ds : List Nat) (i : Nat) (F : List Nat) : Bool := match ds.contains i with
 | true => true
 | false => noneOf KB F

def takeStep (T : Tab) (G : Glob) (N : Nat) (ops : Array Oper) (K : Option (Nat → Bool)) (i : Nat) (k : St → Prop) (X : St) : Prop := match nth ops.toList i with
 | some o => match dstOk N o.dst with
  | true => guarded ops o X (fun X1 => pop T G K X1 o.op fun p => k (setE o.dst p X1)) (fun X1 => k (setE o.dst (.d (.s undef)) X1))
  | false => False
 | none => False
def altStep (P : Program) (T : Tab) (G : Glob) (N : Nat) (ops : Array Oper) (KB : Nat → Bool) (ds : List Nat) (pan : PV → St → Prop) (i : Nat) (k : St → Prop) (X : St) : Prop := match nth ops.toList i with
 | some o => match dstOk N o.dst with
  | true => guarded ops o X (fun X1 => act P T G (some fun _ => true) X1 o.op (fun p X2 F => match footOk KB ds i F with
    | true => k (setE o.dst p X2)
    | false => False) pan) (fun X1 => k (setE o.dst (.d (.s undef)) X1))
  | false => False
 | none => False
def aplan (P : Program) (T : Tab) (G : Glob) (N : Nat) (ops : Array Oper) (KB : Nat → Bool) (ds : List Nat) (pan : PV → St → Prop) (k : St → Prop) : Bool → Plan → St → Prop
 | false, .done, X => k X
 | true, .done, _ => True
 | _, .take i r, X => takeStep T G N ops none i (aplan P T G N ops KB ds pan k false r) X
 | _, .load i r, X => takeStep T G N ops (some KB) i (aplan P T G N ops KB ds pan k false r) X
 | _, .one i r, X => altStep P T G N ops KB ds pan i (aplan P T G N ops KB ds pan k false r) X
 | _, .alt i p o, X => altStep P T G N ops KB ds pan i (aplan P T G N ops KB ds pan k false p) X ∧ aplan P T G N ops KB ds pan k true o X

section
variable {P : Program} {T : Tab} {G : Glob} {D : List Deferred} {N B : Nat} {X X' : St} {H H0 H00 : Nat → Option Value} {lim lim0 lim00 : Nat → Nat} {a : Act} {w w0 w00 : World} {ops : Array Oper} {KB : Nat → Bool} {ds : List Nat} {Q : AExit → St → Prop}

theorem noneOf_ok : ∀ {F : List Nat}, noneOf KB F = true → ∀ id, id ∈ F → KB id = false
 | [], _, _, h => by cases h
 | x :: r, h, id, hid => by
  simp only [noneOf] at h
  split at h
  ·cases h
  rename_i hx
  rcases List.mem_cons.1 hid with rfl | hid
  ·exact hx
  exact noneOf_ok h id hid

/-- What is kept through an operation that writes no row of KB. -/
theorem agr_step (hrows : RowsOk H lim w X.rows) (hlk : ∀ B', Lk B' H0 lim0 w0 H lim w) {F : List Nat} {H' : Nat → Option Value} {lim' : Nat → Nat} {w' : World} (hnx : Nx D (fun i => i ∈ F) G N H lim w X' a H' lim' w') (hF : noneOf KB F = true)
  (hS : Agr (some KB) H0 lim0 w0 w) : Agr (some KB) H0 lim0 w0 w' := by
 refine ⟨fun b o hb ho => ?_, fun id v b hid hH hst hbk => ?_⟩
 ·have h1 := (hlk 0).fr.keep b hb
  have h2 := hnx.fr.keep b (Nat.lt_of_lt_of_le hb (hlk 0).fr.size)
  exact (h2.2 o (Nat.lt_of_lt_of_le ho h1.1)).trans (hS.1 b o hb ho)
 have e := hS.2 id v b hid hH hst hbk
 have hH' : H id = some v := ((hlk (id + 1)).ptr id _ (Nat.lt_succ_self id) hst hH).trans hH
 have hb : bl H id = some b := by simp [bl, hH', hbk]
 have hlt := (lt_of_bl (X := X) hrows hb).2
 refine ((hnx.fr.same b hlt fun ⟨j, hj, hjb⟩ => ?_).1).trans e
 by_cases hij : j = id
 ·subst hij
  have := noneOf_ok hF j hj
  rw [hid] at this
  cases this
 exact hrows.apart j id b hij hjb hb

theorem post_put {c : List PanicEntry} {d : Option Nat} {v : Value} (h : Post D G N B Q H lim w0 (.panic c) (a.put d v) w) : Post D G N B Q H lim w0 (.panic c) a w := by
 simp only [Post] at h ⊢
 obtain ⟨X', H', lim', v', p, h1, h2, h3, h4, h5, h6⟩ := h
 refine ⟨X', H', lim', v', p, h1, h2, h3, ?_, h5, h6⟩
 cases d <;> exact h4

theorem take_sound (hT : TabOk P T) (hR : Rep D G N H lim X a w) {K : Option (Nat → Bool)} {i : Nat} {k : St → Prop} (h : takeStep T G N ops K i k X) :
  ∃ o v X', ops[i]? = some o ∧ ((Region.wanted o (yielded ops a.tmps) = true ∧ ∀ w1, Agr K H lim w w1 → (execOp a.eval o).run P w1 = .ok (.value v) w1) ∨ (Region.wanted o (yielded ops a.tmps) = false ∧ v = undef)) ∧ Rep D G N H lim X' (a.put o.dst v) w ∧ k X' := by
 unfold takeStep at h
 split at h
 ·rename_i o ho
  rw [nth_ops] at ho
  split at h
  ·rename_i hd
   rcases guarded_sound hR h with ⟨hw, X1, hR1, _, h⟩ | ⟨hw, X1, hR1, _, h⟩
   ·obtain ⟨p, ⟨v, h1, h2⟩, h3⟩ := pop_sound hT hR1 o _ h
    exact ⟨o, v, _, ho, .inl ⟨hw, h1⟩, rep_put hR1 hd h2, h3⟩
   exact ⟨o, undef, _, ho, .inr ⟨hw, rfl⟩, rep_put hR1 hd (V_s _), h⟩
  exact h.elim
 exact h.elim

theorem alt_sound (hT : TabOk P T) (hR : Rep D G N H lim X a w) (hlk : ∀ B', Lk B' H0 lim0 w0 H lim w) (h00 : Lk B H00 lim00 w00 H0 lim0 w0) {i : Nat} {k : St → Prop} (h : altStep P T G N ops KB ds (fun p X => Q (.pan p) X) i k X)
  {next : Act → World → Prop} (hk : ∀ X' H' lim' a' w', k X' → Rep D G N H' lim' X' a' w' → (∀ B', Lk B' H0 lim0 w0 H' lim' w') → next a' w') :
  wpOp P ops (Post D G N B Q H00 lim00 w00) i (fun a' w' => (i ∉ ds → Agr (some KB) H0 lim0 w0 w → Agr (some KB) H0 lim0 w0 w') ∧ next a' w') a w := by
 unfold altStep at h
 split at h
 ·rename_i o ho
  rw [nth_ops] at ho
  unfold wpOp
  rw [ho]
  split at h
  ·rename_i hd
   rcases guarded_sound hR h with ⟨hw, X1, hR1, hrw, h⟩ | ⟨hw, X1, hR1, _, h⟩
   ·simp only [hw, if_true]
    refine .inl (act_sound hT hR1 h ?_ ?_)
    ·intro p X' F H' lim' w' v hk' hnx hv
     split at hk'
     ·rename_i hf
      refine ⟨fun hi hS => ?_, hk _ H' lim' _ w' hk' (rep_put hnx.rep hd hv) fun B' => (hlk B').trans hnx.lk⟩
      unfold footOk at hf
      split at hf
      ·rename_i hc; exact absurd (by simpa using hc) hi
      exact agr_step hR1.rows hlk hnx hf hS
     exact hk'.elim
    intro p X' H' lim' w' v hp hR' lk' hv
    exact ⟨X', H', lim', v, p, rfl, hR'.rows, hv, hR'.defers, h00.trans ((hlk B).trans (lk' B)), hp⟩
   simp only [hw]
   exact ⟨fun _ hS => hS, hk _ H lim _ w h (rep_put hR1 hd (V_s _)) hlk⟩
  exact h.elim
 exact h.elim

theorem plan_sound (hT : TabOk P T) (hs : Region.noSelect ops = true) (h00 : Lk B H00 lim00 w00 H0 lim0 w0) : ∀ (p : Plan) (fuel : Nat) (listed : Array Bool) (X : St) (H : Nat → Option Value) (lim : Nat → Nat) (a : Act) (w : World) (fresh : Bool),
  p.depth ≤ fuel → Rep D G N H lim X a w → (∀ B', Lk B' H0 lim0 w0 H lim w) → (fresh = true → H = H0 ∧ lim = lim0 ∧ w = w0) →
  (planOk ops ds false listed fresh p = true → aplan P T G N ops KB ds (fun p X => Q (.pan p) X) (fun X => Q .normal X) false p X → wpAnyLast P .any ops (Post D G N B Q H00 lim00 w00) (Agr (some KB) H0 lim0 w0) ds fuel listed a w) ∧
  (planOk ops ds true listed fresh p = true → aplan P T G N ops KB ds (fun p X => Q (.pan p) X) (fun X => Q .normal X) true p X → 1 ≤ fuel → ∀ i ∈ p.heads, wpOp P ops (Post D G N B Q H00 lim00 w00) i (fun a' w' => (i ∉ ds → Agr (some KB) H0 lim0 w0 w → Agr (some KB) H0 lim0 w0 w') ∧ wpAnyLast P .any ops (Post D G N B Q H00 lim00 w00) (Agr (some KB) H0 lim0 w0) ds (fuel - 1) (listed.setIfInBounds i true) a' w') a w)
 | .done, fuel, listed, X, H, lim, a, w, fresh, hf, hR, hlk, hfr => by
  refine ⟨fun ho h => ?_, fun _ _ _ i hi => by cases hi⟩
  simp only [planOk, beq_iff_eq] at ho
  exact wpAnyLast_done ho ⟨X, H, lim, hR, h00.trans (hlk B), h⟩ fuel
 | .take i r, fuel, listed, X, H, lim, a, w, fresh, hf, hR, hlk, hfr => by
  refine ⟨fun ho h => ?_, fun ho => by simp [planOk] at ho⟩
  simp only [planOk, takeB, Bool.and_eq_true] at ho
  simp only [aplan] at h
  obtain ⟨o, v, X', h1, h2, h3, h4⟩ := take_sound hT hR h
  simp only [Plan.depth] at hf
  obtain ⟨n, rfl⟩ : ∃ n, fuel = n + 1 := ⟨fuel - 1, by omega⟩
  have hrec := (plan_sound hT hs h00 r n (listed.setIfInBounds i true) X' H lim _ w fresh (by omega) h3 hlk hfr).1 ho.2 h4
  exact wpAnyLast_any h1 (Region.noSelect_spec hs) (fun c a w q => post_put q) n listed a w (Region.free_spec h1 ho.1.2) (by simpa using ho.1.1) (h2.imp (fun ⟨q1, q2⟩ => ⟨q1, fun w1 => q2 w1 trivial⟩) id) hrec
 | .load i r, fuel, listed, X, H, lim, a, w, fresh, hf, hR, hlk, hfr => by
  refine ⟨fun ho h => ?_, fun ho => by simp [planOk] at ho⟩
  simp only [planOk, takeB, Bool.and_eq_true] at ho
  simp only [aplan] at h
  obtain ⟨⟨⟨⟨o1, o2, o3⟩, o4⟩, o5⟩, o6⟩ := ho
  obtain ⟨e1, e2, e3⟩ := hfr o1
  obtain ⟨o, v, X', h1, h2, h3, h4⟩ := take_sound hT hR h
  simp only [Plan.depth] at hf
  obtain ⟨n, rfl⟩ : ∃ n, fuel = n + 1 := ⟨fuel - 1, by omega⟩
  have hrec := (plan_sound hT hs h00 r n (listed.setIfInBounds i true) X' H lim _ w fresh (by omega) h3 hlk hfr).1 o6 h4
  exact wpAnyLast_take h1 hs o3 o2 o4 o5 (fun c a w q => post_put q) (by rw [← e1, ← e2, ← e3]; exact h2) (by rw [← e1, ← e2, ← e3]; exact Agr.refl _ _ _ _) hrec
 | .one i r, fuel, listed, X, H, lim, a, w, fresh, hf, hR, hlk, hfr => by
  refine ⟨fun ho h => ?_, fun ho => by simp [planOk] at ho⟩
  simp only [planOk, Bool.and_eq_true, beq_iff_eq] at ho
  simp only [aplan] at h
  simp only [Plan.depth] at hf
  obtain ⟨n, rfl⟩ : ∃ n, fuel = n + 1 := ⟨fuel - 1, by omega⟩
  refine wpAnyLast_all ho.1 (by simp) fun j hj => ?_
  rw [List.mem_singleton.1 hj]
  exact alt_sound hT hR hlk h00 h fun X' H' lim' a' w' q1 q2 q3 => (plan_sound hT hs h00 r n (listed.setIfInBounds i true) X' H' lim' a' w' false (by omega) q2 q3 (fun e => by cases e)).1 ho.2 q1
 | .alt i p o, fuel, listed, X, H, lim, a, w, fresh, hf, hR, hlk, hfr => by
  have hdep : p.depth + 1 ≤ fuel ∧ o.depth ≤ fuel := by
   simp only [Plan.depth] at hf
   exact ⟨Nat.le_trans (Nat.le_max_left ..) hf, Nat.le_trans (Nat.le_max_right ..) hf⟩
  obtain ⟨n, rfl⟩ : ∃ n, fuel = n + 1 := ⟨fuel - 1, by omega⟩
  have key : planOk ops ds false (listed.setIfInBounds i true) false p = true → planOk ops ds true listed false o = true → (altStep P T G N ops KB ds (fun p X => Q (.pan p) X) i (aplan P T G N ops KB ds (fun p X => Q (.pan p) X) (fun X => Q .normal X) false p) X ∧ aplan P T G N ops KB ds (fun p X => Q (.pan p) X) (fun X => Q .normal X) true o X) →
    ∀ j ∈ i :: o.heads, wpOp P ops (Post D G N B Q H00 lim00 w00) j (fun a' w' => (j ∉ ds → Agr (some KB) H0 lim0 w0 w → Agr (some KB) H0 lim0 w0 w') ∧ wpAnyLast P .any ops (Post D G N B Q H00 lim00 w00) (Agr (some KB) H0 lim0 w0) ds n (listed.setIfInBounds j true) a' w') a w := by
   intro k1 k2 ⟨h1, h2⟩ j hj
   rcases List.mem_cons.1 hj with rfl | hj
   ·exact alt_sound hT hR hlk h00 h1 fun X' H' lim' a' w' q1 q2 q3 => (plan_sound hT hs h00 p n (listed.setIfInBounds j true) X' H' lim' a' w' false (by omega) q2 q3 (fun e => by cases e)).1 k1 q1
   exact (plan_sound hT hs h00 o (n + 1) listed X H lim a w false hdep.2 hR hlk (fun e => by cases e)).2 k2 h2 (by omega) j hj
  refine ⟨fun ho h => ?_, fun ho h _ => ?_⟩
  ·simp only [planOk, Bool.and_eq_true, beq_iff_eq] at ho
   simp only [aplan] at h
   exact wpAnyLast_all ho.1.1 (by simp) (key ho.1.2 ho.2 h)
  simp only [planOk, Bool.and_eq_true] at ho
  simp only [aplan] at h
  exact key ho.1 ho.2 h

def planAll (ops : Array Oper) (ds : List Nat) (p : Plan) : Bool := Region.noSelect ops && planOk ops ds false (Array.replicate ops.size false) true p && Nat.ble p.depth ops.size

theorem awp_draw (hT : TabOk P T) (hm : P.follows .mixedOrders = true) {id : Nat} (p : Plan) (ds : List Nat) (KB : Nat → Bool) (hp : planAll ops ds p = true)
  (h : ∀ (pan : PV → St → Prop) (K : St → Prop), (∀ p X, Q (.pan p) X → pan p X) → (∀ X, Q .normal X → K X) → aplan P T G N ops KB ds pan K false p X) : AWp D P G N B (.region id ops true) Q X := by
 intro H lim a w hR
 simp only [planAll, Bool.and_eq_true] at hp
 obtain ⟨⟨h1, h2⟩, h3⟩ := hp
 have hw : Rep D G N H lim X a { w with drawn := w.drawn + 1 } := by
  have hF : Fr (fun _ => False) lim w lim { w with drawn := w.drawn + 1 } := ⟨rfl, rfl, rfl, Nat.le_refl _, fun _ _ => ⟨Nat.le_refl _, fun _ _ => rfl⟩, fun _ _ _ => ⟨rfl, rfl⟩⟩
  exact ⟨env_mono hF (fun _ _ q => q) hR.env, ⟨fun id r hr => row_mono hF (fun _ _ q => q) (fun _ _ q => q) (hR.rows.row id r hr), hR.rows.apart, hR.rows.dom⟩, hR.glob.mono hF (fun _ q => q.elim) (fun _ q => .inl q), hR.defers, hR.size⟩
 have hl : Lk B H lim w H lim { w with drawn := w.drawn + 1 } := ⟨⟨rfl, rfl, rfl, Nat.le_refl _, fun _ _ => ⟨Nat.le_refl _, fun _ _ => rfl⟩, fun _ _ _ => ⟨rfl, rfl⟩⟩, fun _ _ _ _ _ => rfl, fun _ q => .inl q⟩
 exact wp_region_last hm ((plan_sound hT h1 hl p ops.size _ X H lim a _ true (Nat.le_of_ble_eq_true h3) hw (fun _ => Lk.refl) (fun _ => ⟨rfl, rfl, rfl⟩)).1 h2 (h _ _ (fun _ _ q => q) fun _ q => q))
end
end Go.Abs
end
section
namespace Go.Abs
open Go Go.Proofs
theorem digit_spec (G : Glob) (c : Int) : Spec Tryz.prog G 133 [.d (.s (.int .u8 c))] [] (.ret (.d (.s (.bool (decide (c ≥ 48) && decide (c ≤ 57)))))) [] := by
 refine spec_of_awp TT_ok (N := 9) Tryz.func133 rfl (by rfl) (Nat.le_refl _) rfl ?_; refine awp_seq (rgn fun E K J O => ?_); refine O _ ?_; clear O J K E; refine awp_seq (rgn fun E K J O => ?_); refine onB_intro (fun h => ?_) (fun h => ?_)
 ·refine O _ ?_; clear O J K E; refine awp_ret ?_
  exact ⟨_, rfl, by rw [h, Bool.true_and]; rfl, rfl⟩
 refine O _ ?_; refine awp_ret ?_; exact ⟨_, rfl, by rw [h, Bool.false_and]; rfl, rfl⟩
theorem letter_spec (G : Glob) (c : Int) : Spec Tryz.prog G 132 [.d (.s (.int .u8 c))] [] (.ret (.d (.s (.bool (decide (c ≥ 97) && decide (c ≤ 122)))))) [] := by
 refine spec_of_awp TT_ok (N := 9) Tryz.func132 rfl (by rfl) (Nat.le_refl _) rfl ?_; refine awp_seq (rgn fun E K J O => ?_); refine O _ ?_; clear O J K E; refine awp_seq (rgn fun E K J O => ?_); refine onB_intro (fun h => ?_) (fun h => ?_)
 ·refine O _ ?_; clear O J K E; refine awp_ret ?_
  exact ⟨_, rfl, by rw [h, Bool.true_and]; rfl, rfl⟩
 refine O _ ?_; refine awp_ret ?_; exact ⟨_, rfl, by rw [h, Bool.false_and]; rfl, rfl⟩
end Go.Abs
end
section
namespace Go.Abs
open Go Go.Proofs
attribute [local irreducible] aCall AWp Sub Spec
def rdr (ty : TypeId) (s : ByteArray) (i : Int) (w : ByteArray) : Row := .box ty [.d (.s (.string s)), .d (.s (.int .i64 i)), .d (.s (.string w))]
theorem mixed : Tryz.prog.follows .mixedOrders = true := by kernel_rfl
theorem wrapId {x : Int} (h0 : 0 ≤ x) (h1 : x < 9223372036854775808) : IntKind.i64.wrap x = x := by rw [IntKind.wrap_i64]; omega
def p55_0 : Plan := (.take 0 (.take 1 (.take 2 (.load 3 (.take 4 (.take 5 (.take 6 (.load 7 (.take 8 (.take 9 (.take 10 (.take 11 (.one 12 .done)))))))))))))
def p55_1 : Plan := (.take 0 (.take 1 (.take 2 (.load 3 (.take 4 (.take 5 (.take 6 (.load 7 (.take 8 (.take 9 (.take 10 (.take 11 (.take 12 (.take 13 (.load 14 (.take 15 (.take 16 (.take 17 (.load 18 (.take 19 (.take 20 (.take 21 (.take 22 (.take 23 (.take 24 (.load 25 (.take 26 (.take 27 (.take 28 (.load 29 (.take 30 (.take 31 (.take 32 (.take 33 .done))))))))))))))))))))))))))))))))))
def p55_3 : Plan := (.take 0 (.take 1 (.take 2 (.load 3 (.take 4 (.take 5 (.take 6 (.load 7 (.take 8 (.take 9 .done))))))))))
def isL (c : Int) : Bool := decide (c ≥ 97) && decide (c ≤ 122)
def isD (c : Int) : Bool := decide (c ≥ 48) && decide (c ≤ 57)
/-- How far a byte's kind goes. -/
def scanF (p : Int → Bool) (r : ByteArray) : Nat → Nat → Nat
 | 0, n => n
 | f + 1, n => match decide ((n : Int) < (r.size : Int)) with
  | true => match p (byteAt r n) with
   | true => scanF p r f (n + 1)
   | false => n
  | false => n
def isO (c : Int) : Bool := (c == 60) || (c == 62) || (c == 61) || (c == 33)
def opLen (r : ByteArray) : Nat := match decide ((r.size : Int) > 1) && (byteAt r 1 == 61) && isO (byteAt r 0) with
 | true => 2
 | false => 1
def wordLen (r : ByteArray) : Nat := match r.toList.isEmpty with
 | true => 0
 | false => match isL (byteAt r 0) with
  | true => scanF isL r r.size 0
  | false => match isD (byteAt r 0) with
   | true => scanF isD r r.size 0
   | false => opLen r
def isSp (c : Int) : Bool := (c == 32) || (c == 10)
def spaceF (s : ByteArray) : Nat → Nat → Nat
 | 0, i => i
 | f + 1, i => match decide ((i : Int) < (s.size : Int)) with
  | true => match isSp (byteAt s i) with
   | true => spaceF s f (i + 1)
   | false => i
  | false => i
noncomputable def c20 : Code := seqB (seqB (seqB (seqB (seqB (bodyOf Tryz.f55)))))
theorem next_end (G : Glob) (ty : TypeId) (s w r : ByteArray) (j n : Nat) (_hsz : s.size < 4611686018427387904) (_hr : r.size ≤ s.size) (hn : n ≤ r.size) : AWp [] Tryz.prog G 122 1 c20 (RetPost TT Tryz.f55 (.ret (.tup [])) [rdr ty s j (r.extract 0 n)]) ⟨[(0, .box 0 0), (2, .d (.s (.string r))), (3, .d (.s (.int .i64 n)))], [rdr ty s j w]⟩ := by
 refine rgn fun E K J O => ?_; refine And.intro (by omega) (And.intro (by omega) ?_); refine O _ ?_; exact ⟨_, rfl, rfl, rfl⟩
theorem next_tail (G : Glob) (ty : TypeId) (s w : ByteArray) (j : Nat) (hsz : s.size < 4611686018427387904) (hj : j ≤ s.size) : AWp [] Tryz.prog G 122 1 (seqB (seqB (bodyOf Tryz.f55))) (RetPost TT Tryz.f55 (.ret (.tup [])) [rdr ty s j ((s.extract j s.size).extract 0 (wordLen (s.extract j s.size)))]) ⟨[(0, .box 0 0)], [rdr ty s j w]⟩ := by
 refine awp_seq (awp_draw TT_ok mixed p55_3 [] (fun _ => true) (by kernel_rfl) fun E K J O => ?_); refine And.intro (by omega) (And.intro (by omega) ?_); refine O _ (aN [0, 2] rfl rfl ?_); clear O J K E; refine awp_seq (rgn fun E K J O => ?_); refine O _ (aN [0, 2, 3] rfl rfl ?_); clear O J K E; rw [show ((j : Int).toNat) = j from rfl]
 have hr : (s.extract j s.size).size ≤ s.size := by rw [ByteArray.size_extract]; omega
 generalize s.extract j s.size = r at hr; refine awp_seq (awp_block ?_); refine awp_seq (rgn fun E K J O => ?_); refine O _ (aN [0, 2, 3, 81] rfl rfl ?_); clear O J K E; refine awp_cond rfl (onB_intro (fun h => ?_) (fun h => ?_))
 ·have hw : wordLen r = 0 := by
   have : r.toList.isEmpty = true := by simpa using h
   simp only [wordLen, this]
  rw [hw]; refine awp_skip ?_; refine awp_norm [0, 2, 3] rfl rfl ?_; exact next_end G ty s w r j 0 hsz hr (Nat.zero_le _)
 have he : r.toList.isEmpty = false := by simpa using h
 have hpos : 0 < r.size := by
  rcases Nat.eq_zero_or_pos r.size with h0 | h0
  ·have : r.toList = [] := (toList_nil_iff_emptyBytes r).2 (ByteArray.size_eq_zero_iff.1 h0)
   rw [this] at he; cases he
  exact h0
 simp only [wordLen, he]; refine awp_seq (rgn fun E K J O => ?_); refine And.intro (by omega) (And.intro (by omega) ?_)
 show aCall _ _ _ _ _ _ _
 refine aR [] rfl rfl rfl (letter_spec G _) rfl rfl rfl rfl ?_; refine O _ (aN [0, 2, 3, 84] rfl rfl ?_); clear O J K E; refine awp_cond rfl (onB_intro (fun h1 => ?_) (fun h1 => ?_))
 ·rw [show isL (byteAt r 0) = true from h1]
  generalize he : scanF isL r r.size 0 = e; refine awp_norm [0, 2, 3] rfl rfl ?_; refine awp_block (awp_loop (fun n Y => ∃ m : Nat, n = r.size - m ∧ m ≤ r.size ∧ scanF isL r n m = e ∧ Y = ⟨[(0, .box 0 0), (2, .d (.s (.string r))), (3, .d (.s (.int .i64 m)))], [rdr ty s j w]⟩) r.size ⟨0, rfl, Nat.zero_le _, he, rfl⟩ ?_); rintro n Y ⟨m, hn, hm, hms, rfl⟩; refine awp_seq (awp_seq (rgn fun E K J O => ?_)); refine onB_intro (fun h2 => ?_) (fun h2 => ?_)
  ·have hlt := of_decide_eq_true h2
   obtain ⟨q, rfl⟩ : ∃ q, n = q + 1 := ⟨n - 1, by omega⟩; simp only [scanF, h2] at hms; refine And.intro (by omega) (And.intro hlt ?_)
   show aCall _ _ _ _ _ _ _
   refine aR [] rfl rfl rfl (letter_spec G _) rfl rfl rfl rfl ?_; refine O _ (aN [0, 2, 3, 97] rfl rfl ?_); clear O J K E; refine awp_cond rfl (onB_intro (fun h3 => ?_) (fun h3 => ?_))
   ·refine awp_skip ?_
    refine awp_block (rgn fun E K J O => ?_); refine O _ ?_; clear O J K E; refine ⟨q, Nat.lt_succ_self q, _, sub_norm (slots := [0, 2, 3]) rfl rfl, m + 1, by omega, by omega, ?_, ?_⟩
    ·rw [show isL (byteAt r m) = true from h3] at hms
     exact hms
    rw [show IntKind.i64.wrap ((m : Int) + 1) = ((m + 1 : Nat) : Int) from by rw [wrapId (by omega) (by omega)]; omega]
    rfl
   refine awp_exit ?_; rw [show isL (byteAt r m) = false from h3] at hms; have hme : m = e := hms; subst hme; refine awp_norm [0, 2, 3] rfl rfl ?_; exact next_end G ty s w r j m hsz hr hm
  refine O _ (aN [0, 2, 3, 97] rfl rfl ?_); clear O J K E; refine awp_cond rfl ?_; refine awp_exit ?_
  have hme : m = e := by
   cases n with
   | zero => exact hms
   | succ q => simp only [scanF, h2] at hms; exact hms
  subst hme; refine awp_norm [0, 2, 3] rfl rfl ?_; exact next_end G ty s w r j m hsz hr hm
 rw [show isL (byteAt r 0) = false from h1]; refine awp_seq (rgn fun E K J O => ?_); refine And.intro (by omega) (And.intro (by omega) ?_)
 show aCall _ _ _ _ _ _ _
 refine aR [] rfl rfl rfl (digit_spec G _) rfl rfl rfl rfl ?_; refine O _ (aN [0, 2, 3, 100] rfl rfl ?_); clear O J K E; refine awp_cond rfl (onB_intro (fun h1 => ?_) (fun h1 => ?_))
 ·rw [show isD (byteAt r 0) = true from h1]
  generalize he : scanF isD r r.size 0 = e; refine awp_norm [0, 2, 3] rfl rfl ?_; refine awp_block (awp_loop (fun n Y => ∃ m : Nat, n = r.size - m ∧ m ≤ r.size ∧ scanF isD r n m = e ∧ Y = ⟨[(0, .box 0 0), (2, .d (.s (.string r))), (3, .d (.s (.int .i64 m)))], [rdr ty s j w]⟩) r.size ⟨0, rfl, Nat.zero_le _, he, rfl⟩ ?_); rintro n Y ⟨m, hn, hm, hms, rfl⟩; refine awp_seq (awp_seq (rgn fun E K J O => ?_)); refine onB_intro (fun h2 => ?_) (fun h2 => ?_)
  ·have hlt := of_decide_eq_true h2
   obtain ⟨q, rfl⟩ : ∃ q, n = q + 1 := ⟨n - 1, by omega⟩; simp only [scanF, h2] at hms; refine And.intro (by omega) (And.intro hlt ?_)
   show aCall _ _ _ _ _ _ _
   refine aR [] rfl rfl rfl (digit_spec G _) rfl rfl rfl rfl ?_; refine O _ (aN [0, 2, 3, 113] rfl rfl ?_); clear O J K E; refine awp_cond rfl (onB_intro (fun h3 => ?_) (fun h3 => ?_))
   ·refine awp_skip ?_
    refine awp_block (rgn fun E K J O => ?_); refine O _ ?_; clear O J K E; refine ⟨q, Nat.lt_succ_self q, _, sub_norm (slots := [0, 2, 3]) rfl rfl, m + 1, by omega, by omega, ?_, ?_⟩
    ·rw [show isD (byteAt r m) = true from h3] at hms
     exact hms
    rw [show IntKind.i64.wrap ((m : Int) + 1) = ((m + 1 : Nat) : Int) from by rw [wrapId (by omega) (by omega)]; omega]
    rfl
   refine awp_exit ?_; rw [show isD (byteAt r m) = false from h3] at hms; have hme : m = e := hms; subst hme; refine awp_norm [0, 2, 3] rfl rfl ?_; exact next_end G ty s w r j m hsz hr hm
  refine O _ (aN [0, 2, 3, 113] rfl rfl ?_); clear O J K E; refine awp_cond rfl ?_; refine awp_exit ?_
  have hme : m = e := by
   cases n with
   | zero => exact hms
   | succ q => simp only [scanF, h2] at hms; exact hms
  subst hme; refine awp_norm [0, 2, 3] rfl rfl ?_; exact next_end G ty s w r j m hsz hr hm
 rw [show isD (byteAt r 0) = false from h1]; refine awp_seq (rgn fun E K J O => ?_); refine O _ (aN [0, 2, 3] rfl rfl ?_); clear O J K E; refine awp_seq (rgn fun E K J O => ?_); refine onB_intro (fun h2 => ?_) (fun h2 => ?_)
 ·have hlt := of_decide_eq_true h2
  refine And.intro (by omega) (And.intro (by omega) ?_); refine O _ (aN [0, 2, 3, 73] rfl rfl ?_); clear O J K E; refine awp_cond rfl (onB_intro (fun h3 => ?_) (fun h3 => ?_))
  ·refine awp_seq (rgn fun E K J O => ?_)
   refine And.intro (by omega) (And.intro (by omega) ?_); refine O _ (aN [0, 2, 3, 75] rfl rfl ?_); clear O J K E; refine awp_block (awp_cut (fun Z => Z = ⟨[(0, .box 0 0), (2, .d (.s (.string r))), (3, .d (.s (.int .i64 1))), (76, .d (.s (.bool (isO (byteAt r 0)))))], [rdr ty s j w]⟩) ?_ ?_)
   ·refine awp_seq (rgn fun E K J O => ?_)
    refine O _ (aN [0, 2, 3, 75, 76] rfl rfl ?_); clear O J K E; refine awp_cond rfl (onB_intro (fun h4 => ?_) (fun h4 => ?_))
    ·refine awp_skip ?_
     refine ⟨_, sub_norm (slots := [0, 2, 3, 76]) rfl rfl, ?_⟩; rw [h4, show isO (byteAt r 0) = true from by simp only [isO, h4, Bool.true_or]]
     rfl
    refine awp_seq (rgn fun E K J O => ?_); refine O _ (aN [0, 2, 3, 75, 76] rfl rfl ?_); clear O J K E; refine awp_cond rfl (onB_intro (fun h5 => ?_) (fun h5 => ?_))
    ·refine awp_skip ?_
     refine ⟨_, sub_norm (slots := [0, 2, 3, 76]) rfl rfl, ?_⟩; rw [h5, show isO (byteAt r 0) = true from by simp only [isO, h5, Bool.true_or, Bool.or_true]]
     rfl
    refine awp_seq (rgn fun E K J O => ?_); refine O _ (aN [0, 2, 3, 75, 76] rfl rfl ?_); clear O J K E; refine awp_cond rfl (onB_intro (fun h6 => ?_) (fun h6 => ?_))
    ·refine awp_skip ?_
     refine ⟨_, sub_norm (slots := [0, 2, 3, 76]) rfl rfl, ?_⟩; rw [h6, show isO (byteAt r 0) = true from by simp only [isO, h6, Bool.true_or, Bool.or_true]]
     rfl
    refine rgn fun E K J O => ?_; refine O _ ?_; clear O J K E; refine ⟨_, sub_norm (slots := [0, 2, 3, 76]) rfl rfl, ?_⟩; rw [show isO (byteAt r 0) = (byteAt r 0 == 33) from by simp only [isO, h4, h5, h6, Bool.false_or]]
    rfl
   rintro Z rfl; refine awp_cond rfl (onB_intro (fun h4 => ?_) (fun h4 => ?_))
   ·refine rgn fun E K J O => ?_; refine O _ (aN [0, 2, 3] rfl rfl ?_); clear O J K E
    rw [show opLen r = 2 from by unfold opLen; rw [h2, h3, h4]; rfl]; exact next_end G ty s w r j 2 hsz hr (by omega)
   refine awp_skip ?_; refine awp_norm [0, 2, 3] rfl rfl ?_; rw [show opLen r = 1 from by unfold opLen; rw [h2, h3, h4]; rfl]; exact next_end G ty s w r j 1 hsz hr (by omega)
  refine awp_skip ?_; refine awp_norm [0, 2, 3] rfl rfl ?_; rw [show opLen r = 1 from by unfold opLen; rw [h2, h3]; rfl]; exact next_end G ty s w r j 1 hsz hr (by omega)
 refine O _ (aN [0, 2, 3, 73] rfl rfl ?_); clear O J K E; refine awp_cond rfl ?_; refine awp_skip ?_; refine awp_norm [0, 2, 3] rfl rfl ?_; rw [show opLen r = 1 from by unfold opLen; rw [h2]; rfl]; exact next_end G ty s w r j 1 hsz hr (by omega)
def nextF (ty : TypeId) (s : ByteArray) (i : Nat) : Row := let e := spaceF s (s.size - i) i
 rdr ty s e ((s.extract e s.size).extract 0 (wordLen (s.extract e s.size)))
theorem next_spec (G : Glob) (ty : TypeId) (s w : ByteArray) (i : Nat) (hsz : s.size < 4611686018427387904) (hi : i + w.size ≤ s.size) : Spec Tryz.prog G 55 [.box 0 0] [rdr ty s i w] (.ret (.tup [])) [nextF ty s (i + w.size)] := by
 obtain ⟨e, he⟩ : ∃ e, spaceF s (s.size - (i + w.size)) (i + w.size) = e := ⟨_, rfl⟩; rw [show nextF ty s (i + w.size) = rdr ty s e ((s.extract e s.size).extract 0 (wordLen (s.extract e s.size))) from by unfold nextF; rw [he]]; refine spec_of_awp TT_ok (N := 122) Tryz.func55 rfl (by rfl) (Nat.le_refl _) rfl ?_; refine awp_seq (awp_draw TT_ok mixed p55_0 [12] (fun _ => true) (by kernel_rfl) fun E K J O => ?_); refine O _ (aN [0] rfl rfl ?_); clear O J K E; rw [show IntKind.i64.wrap ((i : Int) + (w.size : Int)) = ((i + w.size : Nat) : Int) from by rw [wrapId (by omega) (by omega)]; omega]; refine awp_seq (awp_block (awp_loop (fun n Y => ∃ j : Nat, n = s.size - j ∧ j ≤ s.size ∧ spaceF s n j = e ∧ Y = ⟨[(0, .box 0 0)], [rdr ty s j w]⟩) _ ⟨i + w.size, rfl, hi, he, rfl⟩ ?_)); rintro n Y ⟨j, hn, hj, hjs, rfl⟩; refine awp_seq (awp_seq (awp_draw TT_ok mixed p55_1 [] (fun _ => true) (by kernel_rfl) fun E K J O => ?_)); refine onB_intro (fun h => ?_) (fun h => ?_)
 ·have hlt := of_decide_eq_true h
  obtain ⟨m, rfl⟩ : ∃ m, n = m + 1 := ⟨n - 1, by omega⟩; simp only [spaceF, h] at hjs; refine And.intro (by omega) (And.intro hlt ?_); refine onB_intro (fun h1 => ?_) (fun h1 => ?_)
  ·refine O _ (aN [0, 49] rfl rfl ?_); clear O J K E; refine awp_cond rfl ?_; refine awp_skip ?_
   refine awp_block (rgn fun E K J O => ?_); refine O _ ?_; clear O J K E; refine ⟨m, Nat.lt_succ_self m, _, sub_norm (slots := [0]) rfl rfl, j + 1, by omega, by omega, ?_, ?_⟩
   ·rw [show isSp (byteAt s j) = true from by simp only [isSp, h1, Bool.true_or]] at hjs
    exact hjs
   rw [show IntKind.i64.wrap ((j : Int) + 1) = ((j + 1 : Nat) : Int) from by rw [wrapId (by omega) (by omega)]; omega]
   rfl
  refine And.intro (by omega) (And.intro hlt ?_); refine O _ (aN [0, 49] rfl rfl ?_); clear O J K E; refine awp_cond rfl ?_; refine onB_intro (fun h2 => ?_) (fun h2 => ?_)
  ·refine awp_skip ?_
   refine awp_block (rgn fun E K J O => ?_); refine O _ ?_; clear O J K E; refine ⟨m, Nat.lt_succ_self m, _, sub_norm (slots := [0]) rfl rfl, j + 1, by omega, by omega, ?_, ?_⟩
   ·rw [show isSp (byteAt s j) = true from by simp only [isSp, h2, Bool.or_true]] at hjs
    exact hjs
   rw [show IntKind.i64.wrap ((j : Int) + 1) = ((j + 1 : Nat) : Int) from by rw [wrapId (by omega) (by omega)]; omega]
   rfl
  refine awp_exit ?_
  have hje : j = e := by
   rw [show isSp (byteAt s j) = false from by simp only [isSp, h1, h2, Bool.or_self]] at hjs; exact hjs
  subst hje; refine awp_norm [0] rfl rfl ?_; exact next_tail G ty s w j hsz hj
 refine O _ (aN [0, 49] rfl rfl ?_); clear O J K E; refine awp_cond rfl ?_; refine awp_exit ?_
 have hje : j = e := by
  cases n with
  | zero => exact hjs
  | succ m => simp only [spaceF, h] at hjs; exact hjs
 subst hje; refine awp_norm [0] rfl rfl ?_; exact next_tail G ty s w j hsz hj
end Go.Abs
end
