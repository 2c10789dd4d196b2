/- Texts of this proof, joined: AbsFC, AbsFD, AbsFI, AbsFE, AbsFF, AbsFG. -/
import Derived.Test.YtedljfabpknjiaaGreatDoorK8
import Derived.Test.YtedljfabpknjiaaGreatDoorK11
import Derived.Test.YtedljfabpknjiaaGreatDoorK5
section
namespace Go.Abs
open Go Go.Proofs
theorem pLoad_box {T : Tab} {K : Nat → Bool} {X : St} {t : TypeId} {i : TI} {id off : Nat} {ty : TypeId} {cells : List PV} {p : PV} {k : PV → Prop} (h1 : T t = some i) (h2 : i.desc.agg = false) (h3 : K id = true) (h4 : X.rows[id]? = some (.box ty cells)) (h5 : cells[off]? = some p) (hk : k p) :
    pLoad T (some K) X t (some (.box id off)) k := by
  simp only [pLoad, pLoad1, h1, h2, h3, h4, h5]
  exact hk
theorem xStore_box {T : Tab} {G : Glob} {X : St} {t : TypeId} {addr val : Operand} {i : TI} {id off : Nat} {ty : TypeId} {cells : List PV} {p : PV} {k : PV → St → List Nat → Prop} (h1 : T t = some i) (h2 : i.size = 1) (h3 : ev G X addr = some (.box id off)) (h4 : ev G X val = some p) (h5 : pvCells p = some [p])
    (h6 : X.rows[id]? = some (.box ty cells)) (h7 : off < cells.length) (hk : k (.d (.s undef)) { X with rows := X.rows.set id (.box ty (cells.set off p)) } [id]) : xop T G X (.store t addr val) k := by
  have e1 : Nat.beq ([p] : List PV).length 1 = true := rfl
  have e2 : Nat.ble (off + ([p] : List PV).length) cells.length = true := Nat.ble_eq_true_of_le (by show off + 1 ≤ cells.length; omega)
  have e3 : setAt cells off [p] = cells.set off p := by
    unfold setAt
    rw [List.set_eq_take_append_cons_drop, if_pos h7]
    simp
  simp only [xop, h1, h2, h3, h4, h5, h6, e1, e2, e3]
  exact hk
theorem aops_load {P : Program} {T : Tab} {G : Glob} {N : Nat} {ops : Array Oper} {pan : PV → St → Prop} {i : Nat} {l : List Nat} {k : St → Prop} {X X1 : St} {o : Oper} {t : TypeId} {x : Operand} {ti : TI} {id off : Nat} {ty : TypeId} {cells : List PV} {p : PV} (ho : nth ops.toList i = some o) (hd : dstOk N o.dst = true) (hop : o.op = .load t x)
    (hg : ∀ yes no : St → Prop, yes X1 → guarded ops o X yes no) (hx : ev G X1 x = some (.box id off)) (h1 : T t = some ti) (h2 : ti.desc.agg = false) (h4 : X1.rows[id]? = some (.box ty cells)) (h5 : cells[off]? = some p) (hk : aops P T G N ops pan l k (setE o.dst p X1)) :
    aops P T G N ops pan (i :: l) k X := by
  simp only [aops, ho, hd]
  refine hg _ _ ?_
  simp only [act, hop, pop, hx]
  exact pLoad_box h1 h2 rfl h4 h5 hk
theorem aops_store {P : Program} {T : Tab} {G : Glob} {N : Nat} {ops : Array Oper} {pan : PV → St → Prop} {i : Nat} {l : List Nat} {k : St → Prop} {X X1 : St} {o : Oper} {t : TypeId} {addr val : Operand} {ti : TI} {id off : Nat} {ty : TypeId} {cells : List PV} {p : PV} (ho : nth ops.toList i = some o) (hd : dstOk N o.dst = true) (hop : o.op = .store t addr val)
    (hg : ∀ yes no : St → Prop, yes X1 → guarded ops o X yes no) (h3 : ev G X1 addr = some (.box id off)) (h4 : ev G X1 val = some p) (h1 : T t = some ti) (h2 : ti.size = 1) (h5 : pvCells p = some [p]) (h6 : X1.rows[id]? = some (.box ty cells)) (h7 : off < cells.length)
    (hk : aops P T G N ops pan l k (setE o.dst (.d (.s undef)) { X1 with rows := X1.rows.set id (.box ty (cells.set off p)) })) : aops P T G N ops pan (i :: l) k X := by
  simp only [aops, ho, hd]
  refine hg _ _ ?_
  simp only [act, hop]
  exact xStore_box h1 h2 h3 h4 h5 h6 h7 hk
theorem sub_vec {D : List Deferred} {G : Glob} {N B : Nat} {X : St} (id : Nat) {ty : TypeId} {xs : List Value} (hr : X.rows[id]? = some (.box ty (vecP xs))) : Sub D G N B X ⟨X.env, X.rows.set id (.vec ty xs)⟩ := by
  intro H lim a w hR
  refine ⟨H, lim, ⟨hR.env, ⟨fun j q hj => ?_, hR.rows.apart, fun j hj => hR.rows.dom j (by simpa using hj)⟩, hR.glob, hR.defers, hR.size⟩, Lk.refl⟩
  rcases getElem?_set_some hj with ⟨rfl, rfl⟩ | ⟨_, hj⟩
  · exact (show RowOk H lim w _ (.box ty (vecP xs)) from hR.rows.row _ _ hr)
  exact hR.rows.row j q hj
theorem sub_box {D : List Deferred} {G : Glob} {N B : Nat} {X : St} (id : Nat) {ty : TypeId} {xs : List Value} (hr : X.rows[id]? = some (.vec ty xs)) : Sub D G N B X ⟨X.env, X.rows.set id (.box ty (vecP xs))⟩ := by
  intro H lim a w hR
  refine ⟨H, lim, ⟨hR.env, ⟨fun j q hj => ?_, hR.rows.apart, fun j hj => hR.rows.dom j (by simpa using hj)⟩, hR.glob, hR.defers, hR.size⟩, Lk.refl⟩
  rcases getElem?_set_some hj with ⟨rfl, rfl⟩ | ⟨_, hj⟩
  · exact (show RowOk H lim w _ (.vec ty xs) from hR.rows.row _ _ hr)
  exact hR.rows.row j q hj
/-- A box of scalars told as a row of its own, and back. -/
theorem awp_vec {D : List Deferred} {P : Program} {G : Glob} {N B : Nat} {X : St} {c : Code} {Q : AExit → St → Prop} (id : Nat) {ty : TypeId} {xs : List Value} (hr : X.rows[id]? = some (.box ty (vecP xs))) (h : AWp D P G N B c Q ⟨X.env, X.rows.set id (.vec ty xs)⟩) : AWp D P G N B c Q X := awp_sub (sub_vec id hr) h
theorem awp_box {D : List Deferred} {P : Program} {G : Glob} {N B : Nat} {X : St} {c : Code} {Q : AExit → St → Prop} (id : Nat) {ty : TypeId} {xs : List Value} (hr : X.rows[id]? = some (.vec ty xs)) (h : AWp D P G N B c Q ⟨X.env, X.rows.set id (.box ty (vecP xs))⟩) : AWp D P G N B c Q X := awp_sub (sub_box id hr) h
theorem VDs_nums {lim : Nat → Nat} {w : World} : ∀ {xs : List Int} {zs : List Value}, VDs lim w (nums xs).flatten zs → zs = xs.map (Value.int .i64)
  | [], zs, h => by simpa [nums, VDs] using h
  | x :: xs, zs, h => by
    simp only [nums, List.map_cons, List.flatten_cons, List.singleton_append, VDs, num, VD.eq_1] at h
    obtain ⟨u, us, rfl, rfl, h⟩ := h
    rw [VDs_nums (xs := xs) h]
    rfl
theorem nums_VDs {lim : Nat → Nat} {w : World} : ∀ (xs : List Int), VDs lim w (nums xs).flatten (xs.map (Value.int .i64))
  | [] => by simp [nums, VDs]
  | x :: xs => by
    have := nums_VDs (lim := lim) (w := w) xs
    simp only [nums] at this
    simp only [nums, List.map_cons, List.flatten_cons, List.singleton_append, VDs, num, VD.eq_1]
    exact ⟨_, _, rfl, rfl, this⟩
theorem nums_flat (xs : List Int) : ∀ x, x ∈ nums xs → x.length = 1 ∧ ∀ d, d ∈ x → flatD d = true := by
  intro x hx
  simp only [nums, List.mem_map] at hx
  obtain ⟨i, _, rfl⟩ := hx
  exact ⟨rfl, fun d hd => by rw [List.mem_singleton.1 hd]; rfl⟩
theorem nums_len (xs : List Int) : (nums xs).length = xs.length := by simp [nums]
section
variable {G : Glob} {N : Nat} {H H0 : Nat → Option Value} {lim lim0 : Nat → Nat} {a : Act} {w w0 : World} {T : Tab} {ty : TypeId} {xs ys : List Int}
theorem rev_close (hR : Rep [] G N H lim ⟨[(8, .box 0 0)], [.box ty [.acc 1], .acc 3 1 (nums xs)]⟩ a w) (u r : Value) (w' : World) (hb : ∀ b, bl H 1 ≠ some b → w'.heap[b]? = w.heap[b]?) (hr : RowOk H lim w' 1 (.acc 3 1 (nums ys))) (hg : GlobOk G H lim w') :
    Rep [] G N H lim ⟨[(8, .box 0 0)], [.box ty [.acc 1], .acc 3 1 (nums ys)]⟩ ((a.put (some 83) u).put (some 84) r) w' := by
  obtain ⟨hlt, hv⟩ := hR.env 8 _ rfl
  refine ⟨fun j p hj => ?_, ⟨fun id q hq => ?_, hR.rows.apart, hR.rows.dom⟩, hg, hR.defers, ?_⟩
  · simp only [look] at hj
    split at hj
    · rename_i e
      subst e
      simp only [Option.some.injEq] at hj
      subst hj
      refine ⟨hlt, ?_⟩
      simp only [V] at hv ⊢
      have : ((a.put (some 83) u).put (some 84) r).tmps.getD 8 undef = a.tmps.getD 8 undef := by
        simp [Act.put, Array.getElem?_setIfInBounds_ne]
      rw [this]
      exact hv
    cases hj
  · match id, hq with
    | 0, hq =>
      simp only [List.getElem?_cons_zero, Option.some.injEq] at hq
      subst hq
      obtain ⟨b, cs, h1, h2, h3, h4⟩ := hR.rows.row 0 _ rfl
      have hb0 : bl H 0 = some b := by simp [bl, h1, blk]
      refine ⟨b, cs, h1, (hb b (hR.rows.apart 0 1 b (by decide) hb0)).trans h2, ?_, h4⟩
      simp only [Vs, V] at h3 ⊢
      exact h3
    | 1, hq =>
      simp only [List.getElem?_cons_succ, List.getElem?_cons_zero, Option.some.injEq] at hq
      subst hq
      exact hr
  simp [Act.put, hR.size]
theorem putRow_heap (w : World) (n g : Nat) (d : Array Int) (b : Nat) (h : b ≠ g) : (Sort.putRow (Value.int .i64) (Sort.ahead w n) g 0 d).heap[b]? = w.heap[b]? := by
  simp only [Sort.putRow, Sort.mapBlock, Sort.ahead, Array.getElem?_modify]
  rw [if_neg (Ne.symm h)]
theorem putRow_block (w : World) (n g : Nat) (d : Array Int) {cur : Array Value} {e : TypeId} (h : w.heap[g]? = some (.cells cur e (0, 0))) :
    (Sort.putRow (Value.int .i64) (Sort.ahead w n) g 0 d).heap[g]? = some (.cells (Sort.putCells (Value.int .i64) 0 d cur) e (0, 0)) := by
  simp only [Sort.putRow, Sort.mapBlock, Sort.ahead, Array.getElem?_modify, if_true, h, Option.map_some, Sort.onCells]
theorem putCells_take (d : List Int) (cur : Array Value) (h : d.length ≤ cur.size) : (Sort.putCells (Value.int .i64) 0 d.toArray cur).toList.take (d.length * 1) = d.map (Value.int .i64) := by
  apply List.ext_getElem?
  intro i
  rw [List.getElem?_take, List.getElem?_map]
  by_cases hi : i < d.length
  · rw [if_pos (by omega), Array.getElem?_toList, Sort.putCells, Array.getElem?_mapIdx, Array.getElem?_eq_getElem (show i < cur.size by omega), List.getElem?_eq_getElem hi]
    simp [hi]
  rw [if_neg (by omega), List.getElem?_eq_none (by omega)]
  rfl
/-- The reversal of an owned row of numbers. -/
theorem gw_seq_reverse {id : Nat} {tys : Array TypeId} {o0 o1 : Oper} {ops : Array Oper} {y : Code} {Q : Exit → Act → World → Prop} {i : TI} (hT : TabOk Tryz.prog T) (hi : T 56 = some i) (hag : i.desc.agg = false) (hops : ops = #[o0, o1]) (h0 : o0.op = .load 56 (.tmp 8)) (hd0 : o0.dst = some 83) (hg0 : o0.guard = none)
    (h1 : o1.op = .call { callee := .value (.func 90), args := #[.tmp 83], argTypes := tys }) (hd1 : o1.dst = some 84) (hg1 : o1.guard = none) (hN : 84 < N) (hlen : xs.length ≤ 1000)
    (hne : ∀ i, H0 i = none) (hG : ∀ g v, Nat.ble g 999 = true → G g = some v → ∀ i, v ≠ .int .i64 i)
    (h : GW [] Tryz.prog G N 0 H0 lim0 w0 y Q ⟨[(8, .box 0 0)], [.box ty [.acc 1], .acc 3 1 (nums xs.reverse)]⟩) :
    GW [] Tryz.prog G N 0 H0 lim0 w0 (.seq (.region id ops false) y) Q ⟨[(8, .box 0 0)], [.box ty [.acc 1], .acc 3 1 (nums xs)]⟩ := by
  intro H lim a w hR lk
  refine wp_seq (wp_region ?_)
  subst hops
  have hr : List.range (#[o0, o1] : Array Oper).size = [0, 1] := rfl
  rw [hr]
  obtain ⟨b0, cs, hH0, hb0, hcs, hl0⟩ := hR.rows.row 0 _ rfl
  obtain ⟨hv, zs, hH1, hown, hz, hflat, hk0, hlim⟩ := hR.rows.row 1 _ rfl
  simp only [Vs, V] at hcs
  obtain ⟨u, us, rfl, hu, rfl⟩ := hcs
  rw [hH1] at hu
  obtain rfl := Option.some.inj hu
  have ht8 : a.tmps.getD 8 undef = .pointer (some ⟨b0, 0, none⟩) := by
    obtain ⟨_, hv8⟩ := hR.env 8 _ rfl
    simp only [V] at hv8
    obtain ⟨b, q1, q2⟩ := hv8
    rw [hH0] at q1
    simp only [Option.some.injEq, Value.pointer.injEq, Addr.mk.injEq, and_true] at q1
    subst q1
    exact q2
  have e0 : (execOp a.eval o0).run Tryz.prog w = .ok (.value hv) w := by
    have hrun : (execOp a.eval o0).run Tryz.prog w = ((loadVar 56 ⟨b0, 0, none⟩).run Tryz.prog w).andThen fun v w => .ok (.value v) w := by
      simp only [execOp, h0, Act.eval, ht8]
      simp [Instr.loadAt, Instr.sureAddr]
    rw [hrun, run_loadVar hT hi, hag]
    simp [load, Sem.run, World.cell?, hb0, Result.andThen]
  have hget : (a.put (some 83) hv).tmps.getD 83 undef = hv := by
    have : 83 < a.tmps.size := by rw [hR.size]; omega
    simp [Act.put, this]
  have e1 : (execOp (a.put (some 83) hv).eval o1).run Tryz.prog w = .ok (.enter 90 #[hv]) w := by
    have hen : (callFunc 90 #[hv]).run Tryz.prog w = .ok (.enter 90 #[hv]) w := by
      have hb : Tryz.f90.body ≠ none := by decide
      simp [callFunc, Tryz.func90, program, Sem.run]
      first | done | rfl
    simp only [execOp, h1, resolve, Act.eval, Deferred.ofValue, Sem.run_bind, Sem.run_pure, Result.andThen, invoke]
    have he : (a.put (some 83) hv).eval (.tmp 83) = hv := hget
    simp [he, hen]
  have i0 : (#[o0, o1] : Array Oper)[0]? = some o0 := rfl
  have i1 : (#[o0, o1] : Array Oper)[1]? = some o1 := rfl
  have g0 : ∀ f, Region.wanted o0 f = true := fun f => by simp [Region.wanted, hg0]
  have g1 : ∀ f, Region.wanted o1 f = true := fun f => by simp [Region.wanted, hg1]
  unfold wpOps
  rw [i0]
  simp only
  rw [if_pos (g0 _)]
  refine .inl ?_
  unfold Oper.wp
  rw [e0, Oper.upon_value, hd0]
  unfold wpOps
  rw [i1]
  simp only
  rw [if_pos (g1 _)]
  refine .inl ?_
  unfold Oper.wp
  rw [e1, Oper.upon_enter]
  have hzs := VDs_nums hz
  subst hzs
  rw [nums_len] at hown hlim
  have fin : ∀ w', (∀ b, bl H 1 ≠ some b → w'.heap[b]? = w.heap[b]?) → w'.os = w.os → w'.tape = w.tape → w'.output = w.output → w'.heap.size = w.heap.size → RowOk H lim w' 1 (.acc 3 1 (nums xs.reverse)) → GlobOk G H lim w' →
      y.wp Tryz.prog Q ((a.put (some 83) hv).put o1.dst (.tuple #[])) w' := by
    intro w' hb q1 q2 q3 q4 hr hg
    rw [hd1]
    refine h H lim _ w' (rev_close hR hv _ w' hb hr hg) ⟨⟨q1.trans lk.fr.os, q2.trans lk.fr.tape, q3.trans lk.fr.output, by rw [q4]; exact lk.fr.size, fun b hbl => ?_, fun b hbl hn => ?_⟩, fun id _ hid => absurd hid (by omega), lk.blocks⟩
    · have k := lk.fr.keep b hbl
      have hnb : bl H 1 ≠ some b := fun q => by
        rcases lk.blocks b ⟨1, q⟩ with ⟨i, q⟩ | q
        · simp [bl, hne i] at q
        omega
      refine ⟨k.1, fun o ho => ?_⟩
      rw [← k.2 o ho]
      exact World.cell?_of_block (hb b hnb)
    have k := lk.fr.same b hbl hn
    have hnb : bl H 1 ≠ some b := fun q => by
      rcases lk.blocks b ⟨1, q⟩ with ⟨i, q⟩ | q
      · simp [bl, hne i] at q
      omega
    exact ⟨(hb b hnb).trans k.1, k.2⟩
  by_cases hx : xs = []
  · subst hx
    have hc : Calls Tryz.prog 90 #[hv] w fun e w' => e = .returned (.tuple #[]) ∧ w' = w := by
      rcases hown.2 with ⟨rfl, _⟩ | ⟨g, cap, cur, rfl, _⟩
      · exact Tryz.slices_Reverse_int_empty none 0 w
      exact Tryz.slices_Reverse_int_empty _ cap w
    refine Calls.mono hc ?_
    rintro e w' ⟨rfl, rfl⟩
    refine fin w' (fun _ _ => rfl) rfl rfl rfl rfl ?_ hR.glob
    exact hR.rows.row 1 _ rfl
  rcases hown.2 with ⟨rfl, hn⟩ | ⟨g, cap, cur, rfl, _, hheap, hnc, hcm, hcs, htk⟩
  · exact absurd (List.eq_nil_of_length_eq_zero hn) hx
  have hbl : bl H 1 = some g := by simp [bl, hH1, blk]
  have hcur : ∀ j (hj : j < xs.length), cur[j]? = some (Value.int .i64 xs[j]) := by
    intro j hj
    have : (cur.toList.take (xs.length * 1))[j]? = (xs.map (Value.int .i64))[j]? := by rw [htk]
    rw [List.getElem?_take, if_pos (by omega), Array.getElem?_toList, List.getElem?_map, List.getElem?_eq_getElem hj] at this
    exact this
  have hH : Sort.Holds (Value.int .i64) w g 0 xs.toArray := by
    intro j hj
    have hj' : j < xs.length := by simpa using hj
    have := hcur j hj'
    constructor
    · simp [World.cell?, hheap, this, hj']
    simp [World.frozen?, hheap]
  have hc := Tryz.slices_Reverse_int g 0 cap xs w hH (by omega)
  refine Calls.mono hc ?_
  rintro e w' ⟨rfl, n, rfl⟩
  have hlen' : xs.length ≤ cur.size := by omega
  have hblk := putRow_block w n g xs.reverse.toArray hheap
  refine fin _ (fun b hb => putRow_heap w n g _ b (fun q => hb (q ▸ hbl))) rfl rfl rfl (by simp [Sort.putRow, Sort.mapBlock, Sort.ahead]) ?_ ?_
  · refine ⟨_, xs.reverse.map (Value.int .i64), hH1, ⟨by simp [nums_len], .inr ⟨g, cap, _, by rw [nums_len, List.length_reverse], Nat.zero_le _, hblk, by simpa [nums_len] using hnc, hcm, by simpa [Sort.putCells] using hcs, ?_⟩⟩, nums_VDs _, nums_flat _, hk0, fun b hb => ?_⟩
    · have := putCells_take xs.reverse cur (by simpa using hlen')
      simpa [nums_len] using this
    have := hlim b hb
    simpa [nums_len] using this
  have hgn : NGof G ≤ g := hR.glob.rows g ⟨1, hbl⟩
  refine ⟨by simpa [Sort.putRow, Sort.mapBlock, Sort.ahead] using hR.glob.size, hR.glob.rows, fun q v hq hv' => ?_⟩
  have hold := hR.glob.holds q v hq hv'
  have hcell : ∀ b, b ≠ g → (Sort.putRow (Value.int .i64) (Sort.ahead w n) g 0 xs.reverse.toArray).heap[b]? = w.heap[b]? := fun b hb => putRow_heap w n g _ b hb
  have hplain : oneV v = true → GlobOk1 (NGof G) lim w q v → (Sort.putRow (Value.int .i64) (Sort.ahead w n) g 0 xs.reverse.toArray).cell? ⟨q, 0, none⟩ = some v ∧ 0 < lim q ∧ oneV v = true := by
    intro ho hk
    obtain ⟨k1, k2, k3⟩ := hk.one ho
    have hqg : q ≠ g := by
      intro e
      subst e
      obtain ⟨x, xs', rfl⟩ := List.exists_cons_of_ne_nil hx
      have hc0 := hcur 0 (by simp)
      simp only [World.cell?, hheap] at k1
      simp [hc0] at k1
      exact hG q v hq hv' x (k1.symm)
    exact ⟨(World.cell?_of_block (hcell q hqg)).trans k1, k2, k3⟩
  cases v with
  | tuple cs =>
    obtain ⟨k1, ty', fr, k2⟩ := hold
    exact ⟨k1, ty', fr, (hcell q (by omega)).trans k2⟩
  | agg vs =>
    obtain ⟨ad, cs, ty', rfl, k1, k2⟩ := hold
    exact ⟨ad, cs, ty', rfl, k1, (hcell _ (by omega)).trans k2⟩
  | _ => exact hplain rfl hold
end
end Go.Abs
end
section
namespace Go.Abs
open Go Go.Proofs
attribute [local irreducible] aCall AWp Sub Spec
theorem eds_at {l d e : List Ed} {x : Ed} (h : l = d ++ x :: e) : (eds l)[((d.length : Nat) : Int).toNat]? = some x.cs := by
  subst h; rw [Int.toNat_natCast]; simp [eds]
theorem eds_len (l : List Ed) : (eds l).length = l.length := by simp [eds]
theorem eds_snoc (l : List Ed) (x : Ed) : eds l ++ [x.cs] = eds (l ++ [x]) := by simp [eds]
theorem nums_at {l d e : List Int} {x : Int} (h : l = d ++ x :: e) : (nums l)[((d.length : Nat) : Int).toNat]? = some [num x] := by
  subst h; rw [Int.toNat_natCast]; simp [nums]
theorem nums_snoc (l : List Int) (x : Int) : nums l ++ [[num x]] = nums (l ++ [x]) := by simp [nums]
def wtD : List Ed → Nat
  | [] => 1
  | e :: r => e.kind.size + e.name.size + wtL e.args + wtR e.tests + 200 + wtD r
theorem wtD_len : ∀ l : List Ed, l.length ≤ wtD l
  | [] => by simp [wtD]
  | e :: r => by have := wtD_len r; simp only [wtD, List.length_cons]; omega
theorem wtD_app : ∀ (a b : List Ed), wtD b ≤ wtD (a ++ b)
  | [], b => Nat.le_refl _
  | e :: a, b => by have := wtD_app a b; simp only [List.cons_append, wtD]; omega
def wtG (g : Gr) : Nat := wtV g.vars + wtA g.arrays + wtD g.edges + g.heads.length
theorem ints_spec (G : Glob) (l : List Int) (hl : l.length ≤ 1000000000) : Spec Tryz.prog G 31 [.d (.sl 1 (nums l))] [] (.ret (.d (.sl 1 (nums l)))) [] := by
  refine spec_of_awp2 TT_ok (N := 7) Tryz.func31 rfl (by rfl) (Nat.le_refl _) rfl ?_
  refine awp_seq ?_; refine rgn fun pan K hp hK => ?_; refine hK _ ?_; clear hK hp K pan; refine awp_norm [0] rfl rfl ?_; refine awp_seq ?_; refine rgn fun pan K hp hK => ?_; refine hK _ ?_; clear hK hp K pan; refine awp_norm [0, 3] rfl rfl ?_; refine awp_seq ?_; refine rgn fun pan K hp hK => ?_
  refine And.intro (And.intro ((by simp only [nums_len]; omega)) ((by simp only [nums_len, maxLen]; omega))) ?_
  refine hK _ ?_; clear hK hp K pan; refine awp_norm [2] rfl rfl ?_; refine awp_ret ?_
  exact ⟨_, [], _, [.d (.sl 1 (nums l))], rfl, rfl, rfl, rfl, rfl, PWs.refl _, rfl⟩
def p91_1 : Plan := (.take 0 (.load 1 (.take 2 (.load 3 (.take 4 (.load 5 (.take 7 (.load 8 (.one 6 (.one 9 (.one 10 (.one 11 .done))))))))))))
theorem actOf_spec (G : Glob) (kind name : ByteArray) (args : List Ex) (tests : List Ts) (ha : wtL args ≤ 1000000000) (ht : wtR tests ≤ 1000000000) : Spec Tryz.prog G 91 [.d (.agg [str kind, str name, .sl 4 (exs args), .sl 9 (tss tests)])] [] (.ret (.d (.agg [str kind, str name, .sl 4 (exs args), .sl 9 (tss tests)]))) [] := by
  refine spec_of_awp2 TT_ok (N := 14) Tryz.func91 rfl (by rfl) (Nat.le_refl _) rfl ?_
  refine awp_seq ?_; refine rgn fun pan K hp hK => ?_; refine hK _ ?_; clear hK hp K pan; refine awp_norm [1, 2] rfl rfl ?_; refine awp_seq ?_
  refine (awp_draw TT_ok mixed p91_1 [11] (fun i => Nat.beq i 0) (by kernel_rfl) fun pan K hp hK => ?_)
  show aCall _ _ _ _ _ _ _
  refine aCall_ret (L := []) rfl rfl rfl (exprsOf_all G args ha) rfl rfl rfl rfl ?_
  show aCall _ _ _ _ _ _ _
  refine aCall_ret (L := []) rfl rfl rfl (testsOf_spec G tests ht) rfl rfl rfl rfl ?_
  refine hK _ ?_; clear hK hp K pan; refine awp_norm [2] rfl rfl ?_; refine awp_ret ?_
  exact ⟨_, [], _, [.d (.agg [str kind, str name, .sl 4 (exs args), .sl 9 (tss tests)])], rfl, rfl, rfl, rfl, rfl, PWs.refl _, rfl⟩
set_option maxHeartbeats 1000000
def p27_1 : Plan := (.take 0 (.load 1 (.take 2 (.load 3 (.alt 4 (.alt 5 (.one 6 (.one 7 .done)) (.alt 6 (.one 5 (.one 7 .done)) .done)) (.alt 6 (.one 4 (.one 5 (.one 7 .done))) .done))))))
def p27_6 : Plan := (.take 0 (.load 1 (.take 2 (.load 3 (.take 4 (.take 5 (.take 6 (.load 7 (.take 8 (.load 9 (.take 10 (.take 11 (.take 12 (.load 13 (.one 14 (.one 15 (.one 16 (.take 17 (.one 18 .done)))))))))))))))))))
def p27_10 : Plan := (.take 0 (.load 1 (.take 2 (.load 3 (.take 4 (.take 5 (.take 6 (.load 7 (.take 8 (.load 9 (.take 10 (.take 11 (.take 12 (.load 13 (.take 14 (.load 15 (.take 16 (.take 17 (.take 18 (.load 19 (.one 20 (.one 21 (.one 22 (.one 23 (.take 24 (.one 25 .done))))))))))))))))))))))))))
theorem graphOf_spec (G : Glob) (g : Gr) (hw : wtG g ≤ 1000000000) : Spec Tryz.prog G 27 [.d (.agg g.cs)] [] (.ret (.d (.agg g.cs))) [] := by
  obtain ⟨vars, arrays, points, edges, heads⟩ := g
  simp only [wtG] at hw
  have h1 := wtV_len vars
  have h2 := wtA_len arrays
  have h3 := wtD_len edges
  have hb1 : arrays.length ≤ 1073741824 := by omega
  have hb2 : edges.length ≤ 1073741824 := by omega
  refine spec_of_awp2 TT_ok (N := 76) Tryz.func27 rfl (by rfl) (Nat.le_refl _) rfl ?_
  refine awp_seq ?_; refine rgn fun pan K hp hK => ?_; refine hK _ ?_; clear hK hp K pan; refine awp_norm [1, 2] rfl rfl ?_
  refine awp_cut (fun Z => Z = ⟨[(1, .box 0 0), (2, .box 1 0), (3, .box 2 0)], [.box 58 [.d (.sl 1 (strs vars)), .d (.sl 2 (ars arrays)), .d (num points), .d (.sl 6 (eds edges)), .d (.sl 1 (nums heads))], .box 69 [.d (.s (.slice none 0 0)), .d (.s (.slice none 0 0)), .d (num 0), .d (.s (.slice none 0 0)), .d (.s (.slice none 0 0))], .box 69 [.d (.s (.slice none 0 0)), .d (.s (.slice none 0 0)), .d (num points), .d (.s (.slice none 0 0)), .d (.sl 1 (nums heads))]]⟩) ?_ ?_
  · refine (awp_draw TT_ok mixed p27_1 [7] (fun i => Nat.beq i 0) (by kernel_rfl) fun pan K hp hK => ?_)
    refine And.intro ?_ ?_
    · show aCall _ _ _ _ _ _ _
      refine aCall_ret (L := []) rfl rfl rfl (ints_spec G heads (by omega)) rfl rfl rfl rfl ?_
      refine And.intro ?_ ?_
      · refine hK _ ?_; clear hK hp K pan
        exact ⟨_, sub_norm (slots := [1, 2, 3]) rfl rfl, rfl⟩
      refine And.intro ?_ ?_
      · refine hK _ ?_; clear hK hp K pan
        exact ⟨_, sub_norm (slots := [1, 2, 3]) rfl rfl, rfl⟩
      trivial
    refine And.intro ?_ ?_
    · show aCall _ _ _ _ _ _ _
      refine aCall_ret (L := []) rfl rfl rfl (ints_spec G heads (by omega)) rfl rfl rfl rfl ?_
      refine hK _ ?_; clear hK hp K pan
      exact ⟨_, sub_norm (slots := [1, 2, 3]) rfl rfl, rfl⟩
    trivial
  rintro Z rfl
  refine awp_accCell 2 0 9 1 rfl rfl rfl rfl ?_
  refine awp_accCell 2 1 169 2 rfl rfl rfl rfl ?_
  refine awp_accCell 2 3 127 6 rfl rfl rfl rfl ?_
  refine awp_norm [1, 2, 3] rfl rfl ?_; refine awp_seq ?_; refine rgn fun pan K hp hK => ?_
  refine And.intro (And.intro ((by simp only [strs_length, List.length_nil]; omega)) ((by simp only [strs_length, List.length_nil, maxLen]; omega))) ?_
  refine hK _ ?_; clear hK hp K pan; refine awp_norm [1, 2, 3] rfl rfl ?_; refine awp_seq ?_; refine awp_seq ?_; refine rgn fun pan K hp hK => ?_; refine hK _ ?_; clear hK hp K pan; refine awp_norm [1, 2, 3, 4] rfl rfl ?_; refine awp_block ?_
  refine awp_loop (fun k Y => ∃ (d1 e1 : List Ar), k = e1.length ∧ arrays = d1 ++ e1 ∧ Y = ⟨[(1, .box 0 0), (2, .box 1 0), (3, .box 2 0), (4, .d (num d1.length))], [.box 58 [.d (.sl 1 (strs vars)), .d (.sl 2 (ars arrays)), .d (num points), .d (.sl 6 (eds edges)), .d (.sl 1 (nums heads))], .box 69 [.d (.s (.slice none 0 0)), .d (.s (.slice none 0 0)), .d (num 0), .d (.s (.slice none 0 0)), .d (.s (.slice none 0 0))], .box 69 [.acc 3, .acc 4, .d (num points), .acc 5, .d (.sl 1 (nums heads))], .acc 9 1 (strs vars), .acc 169 2 (ars d1), .acc 127 6 (eds [])]⟩) (arrays.length) (⟨[], arrays, rfl, rfl, rfl⟩) ?_
  rintro k Y ⟨d1, e1, rfl, hl1, rfl⟩
  have hll1 : (ars arrays).length = d1.length + e1.length := by rw [ars, List.length_map, hl1, List.length_append]
  have hdl1 : d1.length + e1.length ≤ 1073741824 := by rw [hl1, List.length_append] at hb1; exact hb1
  refine awp_seq ?_; refine awp_seq ?_; refine rgn fun pan K hp hK => ?_; refine hK _ ?_; clear hK hp K pan; refine awp_norm [1, 2, 3, 4, 22] rfl rfl ?_
  refine awp_cond2 rfl (onB_intro (fun h1 => ?_) (fun h1 => ?_))
  · have h1' := of_decide_eq_true h1
    rw [hll1] at h1'
    cases e1 with
    | nil => simp only [List.length_nil] at h1'; omega
    | cons x e1b =>
    obtain ⟨nm, sz⟩ := x
    subst hl1
    simp only [List.length_cons] at hdl1
    refine awp_skip ?_; refine awp_seq ?_; refine awp_block ?_
    refine (awp_draw TT_ok mixed p27_6 [16, 18] (fun _ => true) (by kernel_rfl) fun pan K hp hK => ?_)
    refine And.intro (by omega) (Exists.intro _ (And.intro (ars_at rfl) ?_))
    refine And.intro (by omega) (Exists.intro _ (And.intro (ars_at rfl) ?_))
    refine And.intro (And.intro ((by simp only [ars, List.length_map, chunk_length]; omega)) ((by simp only [ars, List.length_map, chunk_length, maxLen]; omega))) ?_
    refine hK _ ?_; clear hK hp K pan; refine awp_norm [1, 2, 3, 4] rfl rfl ?_; refine rgn fun pan K hp hK => ?_; refine hK _ ?_; clear hK hp K pan
    exact ⟨_, Nat.lt_succ_self _, _, sub_pick (L := [0, 1, 2, 3, 4, 5]) (slots := [1, 2, 3, 4]) rfl rfl rfl rfl rfl, d1 ++ [⟨nm, sz⟩], e1b, rfl, by simp, by rw [← ars_snoc, List.length_append, wrapId (by omega) (by omega)]; rfl⟩
  have h1' := of_decide_eq_false h1
  rw [hll1] at h1'
  obtain rfl : e1 = [] := List.eq_nil_of_length_eq_zero (by omega)
  rw [List.append_nil] at hl1
  subst hl1
  refine awp_exit ?_
  refine awp_norm [1, 2, 3] rfl rfl ?_; refine awp_seq ?_; refine awp_seq ?_; refine rgn fun pan K hp hK => ?_; refine hK _ ?_; clear hK hp K pan; refine awp_norm [1, 2, 3, 5] rfl rfl ?_; refine awp_block ?_
  refine awp_loop (fun k Y => ∃ (d2 e2 : List Ed), k = e2.length ∧ edges = d2 ++ e2 ∧ Y = ⟨[(1, .box 0 0), (2, .box 1 0), (3, .box 2 0), (5, .d (num d2.length))], [.box 58 [.d (.sl 1 (strs vars)), .d (.sl 2 (ars arrays)), .d (num points), .d (.sl 6 (eds edges)), .d (.sl 1 (nums heads))], .box 69 [.d (.s (.slice none 0 0)), .d (.s (.slice none 0 0)), .d (num 0), .d (.s (.slice none 0 0)), .d (.s (.slice none 0 0))], .box 69 [.acc 3, .acc 4, .d (num points), .acc 5, .d (.sl 1 (nums heads))], .acc 9 1 (strs vars), .acc 169 2 (ars arrays), .acc 127 6 (eds d2)]⟩) (edges.length) (⟨[], edges, rfl, rfl, rfl⟩) ?_
  rintro k Y ⟨d2, e2, rfl, hl2, rfl⟩
  have hll2 : (eds edges).length = d2.length + e2.length := by rw [eds_len, hl2, List.length_append]
  have hdl2 : d2.length + e2.length ≤ 1073741824 := by rw [hl2, List.length_append] at hb2; exact hb2
  refine awp_seq ?_; refine awp_seq ?_; refine rgn fun pan K hp hK => ?_; refine hK _ ?_; clear hK hp K pan; refine awp_norm [1, 2, 3, 5, 47] rfl rfl ?_
  refine awp_cond2 rfl (onB_intro (fun h2 => ?_) (fun h2 => ?_))
  · have h2' := of_decide_eq_true h2
    rw [hll2] at h2'
    cases e2 with
    | nil => simp only [List.length_nil] at h2'; omega
    | cons x e2b =>
    obtain ⟨fr, tt, kind, name, args, tests⟩ := x
    subst hl2
    simp only [List.length_cons] at hdl2
    have hpx := wtD_app d2 (⟨fr, tt, kind, name, args, tests⟩ :: e2b)
    simp only [wtD] at hpx
    refine awp_skip ?_; refine awp_seq ?_; refine awp_block ?_
    refine (awp_draw TT_ok mixed p27_10 [23, 25] (fun _ => true) (by kernel_rfl) fun pan K hp hK => ?_)
    refine And.intro (by omega) (Exists.intro _ (And.intro (eds_at rfl) ?_))
    refine And.intro (by omega) (Exists.intro _ (And.intro (eds_at rfl) ?_))
    refine And.intro (by omega) (Exists.intro _ (And.intro (eds_at rfl) ?_))
    show aCall _ _ _ _ _ _ _
    refine aCall_ret (L := []) rfl rfl rfl (actOf_spec G kind name args tests (by omega) (by omega)) rfl rfl rfl rfl ?_
    refine And.intro (And.intro ((by simp only [eds_len, chunk_length]; omega)) ((by simp only [eds_len, chunk_length, maxLen]; omega))) ?_
    refine hK _ ?_; clear hK hp K pan; refine awp_norm [1, 2, 3, 5] rfl rfl ?_; refine rgn fun pan K hp hK => ?_; refine hK _ ?_; clear hK hp K pan
    exact ⟨_, Nat.lt_succ_self _, _, sub_pick (L := [0, 1, 2, 3, 4, 5]) (slots := [1, 2, 3, 5]) rfl rfl rfl rfl rfl, d2 ++ [⟨fr, tt, kind, name, args, tests⟩], e2b, rfl, by simp, by rw [← eds_snoc, List.length_append, wrapId (by omega) (by omega)]; rfl⟩
  have h2' := of_decide_eq_false h2
  rw [hll2] at h2'
  obtain rfl : e2 = [] := List.eq_nil_of_length_eq_zero (by omega)
  rw [List.append_nil] at hl2
  subst hl2
  refine awp_exit ?_
  refine awp_norm [2, 3] rfl rfl ?_; refine awp_seq ?_; refine rgn fun pan K hp hK => ?_; refine hK _ ?_; clear hK hp K pan; refine awp_norm [2] rfl rfl ?_; refine awp_ret ?_
  exact ⟨_, [], _, [.d (.agg (Gr.cs ⟨vars, arrays, points, edges, heads⟩))], rfl, rfl, rfl, rfl, rfl, PWs.refl _, rfl⟩
end Go.Abs
end
section
namespace Go.Abs
open Go Go.Proofs Go.Proofs.YtedljfabpknjiaaGreatDoor
open Rows (uptoBulk uptoBulkAll)
theorem list5 {α : Type} {l : List α} (h : l.length = 5) : ∃ a0 a1 a2 a3 a4, l = [a0, a1, a2, a3, a4] := by
  match l, h with
  | [a0, a1, a2, a3, a4], _ => exact ⟨a0, a1, a2, a3, a4, rfl⟩
theorem list6 {α : Type} {l : List α} (h : l.length = 6) : ∃ a0 a1 a2 a3 a4 a5, l = [a0, a1, a2, a3, a4, a5] := by
  match l, h with
  | [a0, a1, a2, a3, a4, a5], _ => exact ⟨a0, a1, a2, a3, a4, a5, rfl⟩
theorem c55 : Tryz.prog.cellsOf 55 = 1 := by kernel_rfl
theorem c56 : Tryz.prog.cellsOf 56 = 1 := by kernel_rfl
theorem c58 : Tryz.prog.cellsOf 58 = 5 := by kernel_rfl
theorem c62 : Tryz.prog.cellsOf 62 = 4 := by kernel_rfl
theorem c64 : Tryz.prog.cellsOf 64 = 6 := by kernel_rfl
section
variable {H : Type} {enc : TypeId × Value → H} {W : World}
def QD (e : Ed) (d : DataW H) : Prop := e.kind.size + e.name.size + wtL e.args + wtR e.tests + 200 ≤ 300 * uptoBulk d
theorem al_ed : ∀ {l : List Ed} {ds : List (DataW H)}, Al QD l ds → wtD l ≤ 1 + 300 * uptoBulkAll ds
  | [], [], _ => by simp [wtD]
  | [], d :: ds, h => h.elim
  | x :: l, [], h => h.elim
  | x :: l, d :: ds, ⟨h1, h⟩ => by
    have k := al_ed h
    simp only [QD] at h1
    simp only [wtD, uptoBulkAll]
    omega
theorem al_len {α : Type} {Q : α → DataW H → Prop} : ∀ {l : List α} {ds : List (DataW H)}, Al Q l ds → l.length ≤ uptoBulkAll ds
  | [], [], _ => by simp [uptoBulkAll]
  | [], d :: ds, h => h.elim
  | x :: l, [], h => h.elim
  | x :: l, d :: ds, ⟨_, h⟩ => by
    have k := al_len h
    have p := bulk_pos d
    simp only [List.length_cons, uptoBulkAll]
    omega
theorem flat_ed (e : Ed) (d : Data) (h : d ∈ e.cs) : flatD d = true := by
  simp only [Ed.cs, List.mem_cons, List.not_mem_nil, or_false] at h
  rcases h with rfl | rfl | rfl | rfl | rfl | rfl <;> rfl
theorem rd_ed {n : Nat} {cs : List Value} {z : DataW H × List MemPlace} (h : DataW.trod enc Tryz.prog W 0 (fun _ => true) true n 64 cs = some z) : ∃ e : Ed, VDs (limOf W) W e.cs cs ∧ QD e z.1 := by
  obtain ⟨xs, m, rfl, rfl, hl, hx, hf⟩ := DataW.trod_struct Tryz.underlying64 h
  rw [c64] at hl
  obtain ⟨a0, a1, a2, a3, a4, a5, rfl⟩ := list6 hl
  obtain ⟨x0, x1, x2, rfl⟩ := list3 (hx : xs.length = 3)
  have h0 : DataW.trod enc Tryz.prog W 0 (fun _ => true) true m 3 [a0] = some x0 := by simpa [c3] using hf 0 _ rfl
  have h1 : DataW.trod enc Tryz.prog W 0 (fun _ => true) true m 3 [a1] = some x1 := by simpa [c3] using hf 1 _ rfl
  have h2 : DataW.trod enc Tryz.prog W 0 (fun _ => true) true m 62 [a2, a3, a4, a5] = some x2 := by simpa [c62] using hf 2 _ rfl
  obtain ⟨f, e0, q0, b0⟩ := rd_int h0
  obtain ⟨t, e1, q1, b1⟩ := rd_int h1
  obtain ⟨ys, m2, rfl, ey, hl2, hy, hg⟩ := DataW.trod_struct Tryz.underlying62 h2
  obtain ⟨y0, y1, y2, y3, rfl⟩ := list4 (hy : ys.length = 4)
  have k0 : DataW.trod enc Tryz.prog W 0 (fun _ => true) true m2 9 [a2] = some y0 := by simpa [c9] using hg 0 _ rfl
  have k1 : DataW.trod enc Tryz.prog W 0 (fun _ => true) true m2 9 [a3] = some y1 := by simpa [c9] using hg 1 _ rfl
  have k2 : DataW.trod enc Tryz.prog W 0 (fun _ => true) true m2 59 [a4] = some y2 := by simpa [c59] using hg 2 _ rfl
  have k3 : DataW.trod enc Tryz.prog W 0 (fun _ => true) true m2 60 [a5] = some y3 := by simpa [c60] using hg 3 _ rfl
  obtain ⟨kind, e2, q2⟩ := rd_str k0
  obtain ⟨name, e3, q3⟩ := rd_str k1
  obtain ⟨args, v4, e4, w4, n4, bb4, f4⟩ := rd_exs k2
  obtain ⟨tests, w5, n5, bb5, f5⟩ := rd_row k3
  simp only [List.cons.injEq, and_true] at e0 e1 e2 e3 e4
  subst e0 e1 e2 e3 e4
  refine ⟨⟨f, t, kind, name, args, tests⟩, ?_, ?_⟩
  · simp only [Ed.cs, VDs, VD.eq_1, str, num]
    simp only [VDs] at w5
    exact ⟨_, _, rfl, rfl, _, _, rfl, rfl, _, _, rfl, rfl, _, _, rfl, rfl, _, _, rfl, w4, w5⟩
  have u2 := bulk_pos y2.1
  simp only [QS] at q2 q3
  subst ey
  simp only [QD, List.map_cons, List.map_nil, uptoBulk, uptoBulkAll, b0, b1]
  omega
/-- A graph that reads as data. -/
theorem rd_gr {n : Nat} {cs : List Value} {z : DataW H × List MemPlace} (h : DataW.trod enc Tryz.prog W 0 (fun _ => true) true n 58 cs = some z) : ∃ g : Gr, VDs (limOf W) W g.cs cs ∧ wtG g ≤ 300 * uptoBulk z.1 := by
  obtain ⟨xs, m, rfl, rfl, hl, hx, hf⟩ := DataW.trod_struct Tryz.underlying58 h
  rw [c58] at hl
  obtain ⟨a0, a1, a2, a3, a4, rfl⟩ := list5 hl
  obtain ⟨x0, x1, x2, x3, x4, rfl⟩ := list5 (hx : xs.length = 5)
  have h0 : DataW.trod enc Tryz.prog W 0 (fun _ => true) true m 23 [a0] = some x0 := by simpa [c23] using hf 0 _ rfl
  have h1 : DataW.trod enc Tryz.prog W 0 (fun _ => true) true m 33 [a1] = some x1 := by simpa [c33] using hf 1 _ rfl
  have h2 : DataW.trod enc Tryz.prog W 0 (fun _ => true) true m 3 [a2] = some x2 := by simpa [c3] using hf 2 _ rfl
  have h3 : DataW.trod enc Tryz.prog W 0 (fun _ => true) true m 55 [a3] = some x3 := by simpa [c55] using hf 3 _ rfl
  have h4 : DataW.trod enc Tryz.prog W 0 (fun _ => true) true m 56 [a4] = some x4 := by simpa [c56] using hf 4 _ rfl
  obtain ⟨vars, v0, e0, w0, b0⟩ := rd_strs h0
  obtain ⟨arrays, v1, e1, w1, o1, b1⟩ := rd_as h1
  obtain ⟨points, e2, q2, b2⟩ := rd_int h2
  obtain ⟨edges, ds3, v3, e3, w3, al3, b3⟩ := rd_slice Ed.cs QD Tryz.underlying55 c64 (by decide) (fun _ => rfl) flat_ed (fun m' hm cs z hz => rd_ed hz) h3
  obtain ⟨heads, ds4, v4, e4, w4, al4, b4⟩ := rd_slice (fun i => [num i]) (fun _ _ => True) Tryz.underlying56 c3 (by decide) (fun _ => rfl) (fun x d hd => by rw [List.mem_singleton.1 hd]; rfl) (fun m' hm cs z hz => by
    obtain ⟨i, rfl, _, _⟩ := rd_int hz
    exact ⟨i, by simp only [VDs, VD.eq_1, num]; exact ⟨_, _, rfl, rfl, rfl⟩, trivial⟩) h4
  have k3 := al_ed al3
  have k4 := al_len al4
  simp only [List.cons.injEq, and_true] at e0 e1 e2 e3 e4
  subst e0 e1 e2 e3 e4
  refine ⟨⟨vars, arrays, points, edges, heads⟩, ?_, ?_⟩
  · simp only [Gr.cs, VDs, VD.eq_1, num, eds, nums, ars]
    exact ⟨_, _, rfl, w0, _, _, rfl, w1, _, _, rfl, rfl, _, _, rfl, w3, _, _, rfl, w4, rfl⟩
  have u0 := bulk_pos x0.1
  have u1 := bulk_pos x1.1
  simp only [wtG, List.map_cons, List.map_nil, uptoBulk, uptoBulkAll]
  omega
end
end Go.Abs
end
section
namespace Go.Abs
open Go Go.Proofs
attribute [local irreducible] aCall AWp Sub Spec
def bvs (s : List Bool) : List Value := s.map Value.bool
theorem bpv_len (s : List Bool) : (vecP (bvs s)).length = s.length := by simp [bvs, vecP]
theorem bpv_at {s : List Bool} {i : Int} (h0 : 0 ≤ i) (h1 : i < s.length) : (vecP (bvs s))[0 + i.toNat * 1]? = some (.d (.s (.bool (seenAt s i)))) := by
  have hlt : i.toNat < s.length := by omega
  have e : 0 + i.toNat * 1 = i.toNat := by omega
  rw [e]
  simp [vecP, bvs, seenAt, List.getD_eq_getElem?_getD, List.getElem?_eq_getElem hlt]
theorem bpv_set (s : List Bool) (i : Nat) : (vecP (bvs s)).set (0 + i * 1) (.d (.s (.bool true))) = vecP (bvs (s.set i true)) := by
  have e : 0 + i * 1 = i := by omega
  rw [e]
  simp [vecP, bvs]
/-- The rows of a visit: the graph; what is done; what is seen. -/
def FR (vars : List ByteArray) (arrays : List Ar) (points : Int) (edges : List Ed) (heads : List Int) (n : Nat) (s : List Bool) (out : List Int) : List Row :=
  [.box 69 [.d (.sl 1 (strs vars)), .d (.sl 2 (ars arrays)), .d (num points), .d (.sl 6 (eds edges)), .d (.sl 1 (nums heads))], .box 56 [.acc 5], .vec 4 (bvs s), .box 179 [.arr 2 0 n], .box 148 [.fn 89 [.box 3 0, .box 0 0, .box 4 0, .box 1 0]], .acc 3 1 (nums out)]
section
variable (vars : List ByteArray) (arrays : List Ar) (points : Int) (edges : List Ed) (heads : List Int) (n : Nat)
def VisOk (G : Glob) (m : Nat) : Prop := ∀ (a : Int) (s : List Bool) (out o : List Int) (s' : List Bool), 0 ≤ a → a < n → s.length = n → seenAt s a = false → s.count false ≤ m → out.length + s.count false ≤ 1000 → visF edges m a s = some (o, s') →
  Spec Tryz.prog G 89 [.d (num a), .box 3 0, .box 0 0, .box 4 0, .box 1 0] (FR vars arrays points edges heads n s out) (.ret (.tup [])) (FR vars arrays points edges heads n s' (out ++ o))
theorem vis_step (G : Glob) (he : ∀ e, e ∈ edges → 0 ≤ e.t ∧ e.t < n) (hbig : edges.length ≤ 1000) (m : Nat) (ih : VisOk vars arrays points edges heads n G m) : VisOk vars arrays points edges heads n G (m + 1) := by
  intro a s out oR sF ha1 ha2 hsl hsa hm hout hv0
  have hn : edges.length ≤ 1073741824 := by omega
  have hg : s[a.toNat]? = some false := by
    have hlt : a.toNat < s.length := by omega
    unfold seenAt at hsa
    rw [List.getD_eq_getElem?_getD, List.getElem?_eq_getElem hlt] at hsa
    rw [List.getElem?_eq_getElem hlt]
    simpa using hsa
  have hcs := count_set s a.toNat hg
  obtain ⟨oF, hw, rfl⟩ : ∃ oF, visL (visF edges m) a edges (s.set a.toNat true) [] = some (oF, sF) ∧ oR = oF ++ [a] := by
    simp only [visF] at hv0
    split at hv0
    · cases hv0
    rename_i o' s' hw
    simp only [Option.some.injEq, Prod.mk.injEq] at hv0
    obtain ⟨rfl, rfl⟩ := hv0
    exact ⟨o', hw, rfl⟩
  refine spec_of_awp2 TT_ok (N := 39) Tryz.func89 rfl (by rfl) (Nat.le_refl _) rfl ?_
  refine awp_box 2 rfl ?_
  refine awp_seq ?_; refine rgn fun pan K hp hK => ?_
  refine And.intro (by omega) (And.intro (by omega) ?_)
  refine aops_store rfl rfl rfl (fun _ _ h => h) rfl rfl rfl rfl rfl rfl (by rw [bpv_len]; show 0 + a.toNat * 1 < s.length; omega) ?_
  refine hK _ ?_; clear hK hp K pan
  refine awp_vec 2 (ty := 4) (xs := bvs (s.set a.toNat true)) (congrArg (fun c => some (Row.box 4 c)) (bpv_set s a.toNat)) ?_
  refine awp_norm [0, 1, 2, 3, 4] rfl rfl ?_; refine awp_seq ?_; refine awp_seq ?_; refine rgn fun pan K hp hK => ?_; refine hK _ ?_; clear hK hp K pan; refine awp_norm [0, 1, 3, 4, 12, 13, 14] rfl rfl ?_; refine awp_block ?_
  refine awp_loop (fun k Y => ∃ (d1 e1 : List Ed) (s : List Bool) (o : List Int), k = e1.length ∧ edges = d1 ++ e1 ∧ visL (visF edges m) a e1 s o = some (oF, sF) ∧ s.length = n ∧ s.count false ≤ m ∧ (out ++ o).length + s.count false ≤ 1000 ∧ Y = ⟨[(0, .d (num a)), (1, .box 3 0), (3, .box 4 0), (4, .box 1 0), (12, .d (.sl 6 (eds edges))), (13, .d (num (eds edges).length)), (14, .d (num d1.length))], FR vars arrays points edges heads n s (out ++ o)⟩) (edges.length) (⟨[], edges, s.set a.toNat true, [], rfl, rfl, hw, (by simpa using hsl), (by omega), (by simp only [List.append_nil]; omega), by rw [List.append_nil]; rfl⟩) ?_
  rintro k Y ⟨d1, e1, s, o, rfl, hl1, hG, hz1_0, hz1_1, hz1_2, rfl⟩
  have hll1 : (eds edges).length = d1.length + e1.length := by rw [eds_len, hl1, List.length_append]
  have hdl1 : d1.length + e1.length ≤ 1073741824 := by rw [hl1, List.length_append] at hn; exact hn
  refine awp_seq ?_; refine rgn fun pan K hp hK => ?_; refine hK _ ?_; clear hK hp K pan; refine awp_norm [0, 1, 3, 4, 12, 13, 14, 15] rfl rfl ?_; refine awp_seq ?_
  refine awp_cond2 rfl (onB_intro (fun h1 => ?_) (fun h1 => ?_))
  · have h1' := of_decide_eq_true h1
    rw [hll1] at h1'
    cases e1 with
    | nil => simp only [List.length_nil] at h1'; omega
    | cons x e1b =>
    obtain ⟨fr, tt, kind, name, args, tests⟩ := x
    subst hl1
    simp only [List.length_cons] at hdl1
    simp only [visL] at hG
    have htt := he ⟨fr, tt, kind, name, args, tests⟩ (by simp)
    simp only at htt
    refine awp_skip ?_; refine awp_seq ?_; refine awp_block ?_; refine awp_seq ?_; refine rgn fun pan K hp hK => ?_
    refine And.intro (by omega) (Exists.intro _ (And.intro (eds_at rfl) ?_))
    refine hK _ ?_; clear hK hp K pan; refine awp_norm [0, 1, 3, 4, 7, 12, 13, 14] rfl rfl ?_
    refine awp_box 2 rfl ?_
    refine awp_seq ?_; refine rgn fun pan K hp hK => ?_
    refine onB_intro (fun h2 => ?_) (fun h2 => ?_)
    · simp only [h2] at hG
      refine And.intro htt.1 (And.intro htt.2 ?_)
      refine aops_load rfl rfl rfl (fun _ _ h => h) rfl rfl rfl rfl (bpv_at htt.1 (by rw [hz1_0]; exact htt.2)) ?_
      refine hK _ ?_; clear hK hp K pan
      refine awp_vec 2 rfl ?_
      refine awp_norm [0, 1, 3, 4, 7, 12, 13, 14, 29] rfl rfl ?_
      refine awp_cond2 rfl (onB_intro (fun h3 => ?_) (fun h3 => ?_))
      · have hs1 : seenAt s tt = false := by simpa using h3
        simp only [hs1] at hG
        refine rgn fun pan K hp hK => ?_; show aCall _ _ _ _ _ _ _
        obtain ⟨l, s1, hv, k2, k3⟩ := visF_ok n _ he m tt s htt.1 htt.2 hz1_0 hs1 hz1_1
        simp only [hv] at hG
        have hlen1 := hz1_2
        simp only [List.length_append] at hlen1
        have sp := ih tt s (out ++ o) l s1 htt.1 htt.2 hz1_0 hs1 hz1_1 hz1_2 hv
        rw [List.append_assoc out o l] at sp
        refine aCall_ret (L := [0, 1, 2, 3, 4, 5]) rfl rfl rfl sp rfl rfl rfl rfl ?_
        refine hK _ ?_; clear hK hp K pan; refine awp_norm [0, 1, 3, 4, 12, 13, 14] rfl rfl ?_; refine rgn fun pan K hp hK => ?_; refine hK _ ?_; clear hK hp K pan
        exact ⟨_, Nat.lt_succ_self _, _, sub_pick (L := [0, 1, 2, 3, 4, 5]) (slots := [0, 1, 3, 4, 12, 13, 14]) rfl rfl rfl rfl rfl, d1 ++ [⟨fr, tt, kind, name, args, tests⟩], e1b, s1, (o ++ l), rfl, by simp, hG, k2, (by omega), (by simp only [List.length_append]; omega), by rw [List.length_append, wrapId (by omega) (by omega)]; rfl⟩
      have hs1 : seenAt s tt = true := by simpa using h3
      simp only [hs1] at hG
      refine awp_skip ?_; refine rgn fun pan K hp hK => ?_; refine hK _ ?_; clear hK hp K pan
      exact ⟨_, Nat.lt_succ_self _, _, sub_pick (L := [0, 1, 2, 3, 4, 5]) (slots := [0, 1, 3, 4, 12, 13, 14]) rfl rfl rfl rfl rfl, d1 ++ [⟨fr, tt, kind, name, args, tests⟩], e1b, s, o, rfl, by simp, hG, hz1_0, hz1_1, hz1_2, by rw [List.length_append, wrapId (by omega) (by omega)]; rfl⟩
    simp only [h2] at hG
    refine hK _ ?_; clear hK hp K pan
    refine awp_vec 2 rfl ?_
    refine awp_norm [0, 1, 3, 4, 7, 12, 13, 14, 29] rfl rfl ?_; refine awp_cond rfl ?_; refine awp_skip ?_; refine rgn fun pan K hp hK => ?_; refine hK _ ?_; clear hK hp K pan
    exact ⟨_, Nat.lt_succ_self _, _, sub_pick (L := [0, 1, 2, 3, 4, 5]) (slots := [0, 1, 3, 4, 12, 13, 14]) rfl rfl rfl rfl rfl, d1 ++ [⟨fr, tt, kind, name, args, tests⟩], e1b, s, o, rfl, by simp, hG, hz1_0, hz1_1, hz1_2, by rw [List.length_append, wrapId (by omega) (by omega)]; rfl⟩
  have h1' := of_decide_eq_false h1
  rw [hll1] at h1'
  obtain rfl : e1 = [] := List.eq_nil_of_length_eq_zero (by omega)
  simp only [visL] at hG
  refine awp_exit ?_
  refine awp_norm [0, 4] rfl rfl ?_; refine rgn fun pan K hp hK => ?_
  refine And.intro (And.intro ((by simp only [nums_len, List.length_append, chunk_length, List.length_nil] at *; omega)) ((by simp only [nums_len, List.length_append, chunk_length, List.length_nil, maxLen] at *; omega))) ?_
  refine hK _ ?_; clear hK hp K pan
  simp only [Option.some.injEq, Prod.mk.injEq] at hG
  obtain ⟨rfl, rfl⟩ := hG
  have en : nums (out ++ o) ++ [[num a]] = nums (out ++ (o ++ [a])) := by simp [nums]
  refine ⟨_, [0, 1, 2, 3, 4, 5], _, [], rfl, rfl, rfl, rfl, ?_, PWs.nil, rfl⟩
  simp only [FR]
  rw [← en]
  rfl
theorem vis_all (G : Glob) (he : ∀ e, e ∈ edges → 0 ≤ e.t ∧ e.t < n) (hbig : edges.length ≤ 1000) : ∀ m, VisOk vars arrays points edges heads n G m
  | 0 => fun a s out o s' _ _ _ _ _ _ h => by simp [visF] at h
  | m + 1 => vis_step vars arrays points edges heads n G he hbig m (vis_all G he hbig m)
end
end Go.Abs
end
section
namespace Go.Abs
open Go Go.Proofs
attribute [local irreducible] aCall AWp Sub Spec
theorem bpv_rep (n : Nat) : List.replicate n (PV.d (.s (.bool false))) = vecP (bvs (List.replicate n false)) := by simp [vecP, bvs]
section
variable (vars : List ByteArray) (arrays : List Ar) (points : Int) (edges : List Ed) (heads : List Int) (n : Nat)
def RVisOk (G : Glob) (m : Nat) : Prop := ∀ (a : Int) (s : List Bool) (o : List Int) (s' : List Bool), 0 ≤ a → a < n → s.length = n → seenAt s a = false → s.count false ≤ m → s.count false ≤ 1000 → visF edges m a s = some (o, s') →
  Spec Tryz.prog G 92 [.d (.agg (Gr.cs ⟨vars, arrays, points, edges, heads⟩)), .d (num a), .arr 0 0 n] [.vec 4 (bvs s)] (.ret (.d (.sl 1 (nums o)))) [.vec 4 (bvs s')]
theorem nums_app (a b : List Int) : nums (a ++ b) = nums a ++ nums b := by simp [nums]
def p92_9 : Plan := (.take 0 (.load 1 (.take 2 (.load 3 (.take 4 (.take 5 (.take 6 (.load 7 (.take 8 (.one 9 (.one 10 (.take 11 .done))))))))))))
theorem rvis_step (G : Glob) (he : ∀ e, e ∈ edges → 0 ≤ e.t ∧ e.t < n) (hbig : edges.length ≤ 1000) (hp : (points == 0) = false) (m : Nat) (ih : RVisOk vars arrays points edges heads n G m) : RVisOk vars arrays points edges heads n G (m + 1) := by
  intro a s oR sF ha1 ha2 hsl hsa hm hout hv0
  have hn : edges.length ≤ 1073741824 := by omega
  have hg : s[a.toNat]? = some false := by
    have hlt : a.toNat < s.length := by omega
    unfold seenAt at hsa
    rw [List.getD_eq_getElem?_getD, List.getElem?_eq_getElem hlt] at hsa
    rw [List.getElem?_eq_getElem hlt]
    simpa using hsa
  have hcs := count_set s a.toNat hg
  obtain ⟨oF, hw, rfl⟩ : ∃ oF, visL (visF edges m) a edges (s.set a.toNat true) [] = some (oF, sF) ∧ oR = oF ++ [a] := by
    simp only [visF] at hv0
    split at hv0
    · cases hv0
    rename_i o' s' hw
    simp only [Option.some.injEq, Prod.mk.injEq] at hv0
    obtain ⟨rfl, rfl⟩ := hv0
    exact ⟨o', hw, rfl⟩
  refine spec_of_awp2 TT_ok (N := 57) Tryz.func92 rfl (by rfl) (Nat.le_refl _) rfl ?_
  refine awp_seq ?_; refine rgn fun pan K hp hK => ?_; refine hK _ ?_; clear hK hp K pan; refine awp_norm [1, 2, 3] rfl rfl ?_; refine awp_seq ?_; refine awp_seq ?_; refine rgn fun pan K hp hK => ?_; refine hK _ ?_; clear hK hp K pan; refine awp_norm [1, 2, 3, 11] rfl rfl ?_
  refine awp_box 0 rfl ?_
  refine awp_cond2 rfl (onB_intro (fun h1 => ?_) (fun h1 => ?_))
  · rw [hp] at h1; cases h1
  refine awp_skip ?_; refine awp_seq ?_; refine rgn fun pan K hp hK => ?_
  refine And.intro (by omega) (And.intro (by omega) ?_)
  refine aops_store rfl rfl rfl (fun _ _ h => h) rfl rfl rfl rfl rfl rfl (by rw [bpv_len]; show 0 + a.toNat * 1 < s.length; omega) ?_
  refine hK _ ?_; clear hK hp K pan
  refine awp_vec 0 (ty := 4) (xs := bvs (s.set a.toNat true)) (congrArg (fun c => some (Row.box 4 c)) (bpv_set s a.toNat)) ?_
  refine awp_norm [1, 2, 3] rfl rfl ?_; refine awp_seq ?_; refine rgn fun pan K hp hK => ?_; refine hK _ ?_; clear hK hp K pan; refine awp_norm [1, 2, 3, 7] rfl rfl ?_
  refine awp_acc 7 3 1 rfl rfl rfl ?_
  refine awp_norm [1, 2, 3, 7] rfl rfl ?_; refine awp_seq ?_; refine awp_seq ?_; refine rgn fun pan K hp hK => ?_; refine hK _ ?_; clear hK hp K pan; refine awp_norm [1, 2, 3, 7, 8] rfl rfl ?_; refine awp_block ?_
  refine awp_loop (fun k Y => ∃ (d1 e1 : List Ed) (s : List Bool) (o : List Int), k = e1.length ∧ edges = d1 ++ e1 ∧ visL (visF edges m) a e1 s o = some (oF, sF) ∧ s.length = n ∧ s.count false ≤ m ∧ o.length + s.count false ≤ 1000 ∧ Y = ⟨[(1, .d (num a)), (2, .arr 0 0 n), (3, .box 1 0), (7, .acc 2), (8, .d (num d1.length))], [.vec 4 (bvs s), .box 58 [.d (.sl 1 (strs vars)), .d (.sl 2 (ars arrays)), .d (num points), .d (.sl 6 (eds edges)), .d (.sl 1 (nums heads))], .acc 3 1 (nums o)]⟩) (edges.length) (⟨[], edges, s.set a.toNat true, [], rfl, rfl, hw, (by simpa using hsl), (by omega), (by simp only [List.length_nil]; omega), rfl⟩) ?_
  rintro k Y ⟨d1, e1, s, o, rfl, hl1, hG, hz1_0, hz1_1, hz1_2, rfl⟩
  have hll1 : (eds edges).length = d1.length + e1.length := by rw [eds_len, hl1, List.length_append]
  have hdl1 : d1.length + e1.length ≤ 1073741824 := by rw [hl1, List.length_append] at hn; exact hn
  refine awp_seq ?_; refine awp_seq ?_; refine rgn fun pan K hp hK => ?_; refine hK _ ?_; clear hK hp K pan; refine awp_norm [1, 2, 3, 7, 8, 19] rfl rfl ?_
  refine awp_cond2 rfl (onB_intro (fun h2 => ?_) (fun h2 => ?_))
  · have h2' := of_decide_eq_true h2
    rw [hll1] at h2'
    cases e1 with
    | nil => simp only [List.length_nil] at h2'; omega
    | cons x e1b =>
    obtain ⟨fr, tt, kind, name, args, tests⟩ := x
    subst hl1
    simp only [List.length_cons] at hdl1
    simp only [visL] at hG
    have htt := he ⟨fr, tt, kind, name, args, tests⟩ (by simp)
    simp only at htt
    refine awp_box 0 rfl ?_
    refine awp_skip ?_; refine awp_seq ?_; refine awp_block ?_; refine awp_seq ?_; refine rgn fun pan K hp hK => ?_
    refine And.intro (by omega) (Exists.intro _ (And.intro (eds_at rfl) ?_))
    refine onB_intro (fun h3 => ?_) (fun h3 => ?_)
    · simp only [h3] at hG
      refine And.intro (by omega) (Exists.intro _ (And.intro (eds_at rfl) ?_))
      refine And.intro htt.1 (And.intro htt.2 ?_)
      refine aops_load rfl rfl rfl (fun _ _ h => h) rfl rfl rfl rfl (bpv_at htt.1 (by rw [hz1_0]; exact htt.2)) ?_
      refine hK _ ?_; clear hK hp K pan
      refine awp_vec 0 rfl ?_
      refine awp_norm [1, 2, 3, 7, 8, 41] rfl rfl ?_
      refine awp_cond2 rfl (onB_intro (fun h4 => ?_) (fun h4 => ?_))
      · have hs1 : seenAt s tt = false := by simpa using h4
        simp only [hs1] at hG
        refine (awp_draw TT_ok mixed p92_9 [9, 10] (fun i => Nat.beq i 1) (by kernel_rfl) fun pan K hp hK => ?_)
        refine And.intro (by omega) (Exists.intro _ (And.intro (eds_at rfl) ?_))
        show aCall _ _ _ _ _ _ _
        obtain ⟨l, s1, hv, k2, k3⟩ := visF_ok n _ he m tt s htt.1 htt.2 hz1_0 hs1 hz1_1
        simp only [hv] at hG
        have sp := ih tt s l s1 htt.1 htt.2 hz1_0 hs1 hz1_1 (by omega) hv
        refine aCall_ret (L := [0]) rfl rfl rfl sp rfl rfl rfl rfl ?_
        refine And.intro (And.intro ((by simp only [nums_len, List.length_append, List.length_cons, List.length_nil] at *; omega)) ((by simp only [nums_len, List.length_append, List.length_cons, List.length_nil, maxLen] at *; omega))) ?_
        refine hK _ ?_; clear hK hp K pan; refine awp_norm [1, 2, 3, 7, 8] rfl rfl ?_; refine rgn fun pan K hp hK => ?_; refine hK _ ?_; clear hK hp K pan
        exact ⟨_, Nat.lt_succ_self _, _, sub_pick (L := [0, 1, 2]) (slots := [1, 2, 3, 7, 8]) rfl rfl rfl rfl rfl, d1 ++ [⟨fr, tt, kind, name, args, tests⟩], e1b, s1, (o ++ l), rfl, by simp, hG, k2, (by omega), (by simp only [List.length_append]; omega), by rw [List.length_append, wrapId (by omega) (by omega), nums_app]; rfl⟩
      have hs1 : seenAt s tt = true := by simpa using h4
      simp only [hs1] at hG
      refine awp_skip ?_; refine rgn fun pan K hp hK => ?_; refine hK _ ?_; clear hK hp K pan
      exact ⟨_, Nat.lt_succ_self _, _, sub_pick (L := [0, 1, 2]) (slots := [1, 2, 3, 7, 8]) rfl rfl rfl rfl rfl, d1 ++ [⟨fr, tt, kind, name, args, tests⟩], e1b, s, o, rfl, by simp, hG, hz1_0, hz1_1, hz1_2, by rw [List.length_append, wrapId (by omega) (by omega)]; rfl⟩
    simp only [h3] at hG
    refine hK _ ?_; clear hK hp K pan
    refine awp_vec 0 rfl ?_
    refine awp_norm [1, 2, 3, 7, 8, 41] rfl rfl ?_; refine awp_cond rfl ?_; refine awp_skip ?_; refine rgn fun pan K hp hK => ?_; refine hK _ ?_; clear hK hp K pan
    exact ⟨_, Nat.lt_succ_self _, _, sub_pick (L := [0, 1, 2]) (slots := [1, 2, 3, 7, 8]) rfl rfl rfl rfl rfl, d1 ++ [⟨fr, tt, kind, name, args, tests⟩], e1b, s, o, rfl, by simp, hG, hz1_0, hz1_1, hz1_2, by rw [List.length_append, wrapId (by omega) (by omega)]; rfl⟩
  have h2' := of_decide_eq_false h2
  rw [hll1] at h2'
  obtain rfl : e1 = [] := List.eq_nil_of_length_eq_zero (by omega)
  simp only [visL] at hG
  refine awp_exit ?_
  refine awp_norm [1, 7] rfl rfl ?_; refine awp_seq ?_; refine rgn fun pan K hp hK => ?_
  refine And.intro (And.intro ((by simp only [nums_len, chunk_length, List.length_cons, List.length_nil] at *; omega)) ((by simp only [nums_len, chunk_length, List.length_cons, List.length_nil, maxLen] at *; omega))) ?_
  refine hK _ ?_; clear hK hp K pan; refine awp_norm [6] rfl rfl ?_; refine awp_ret ?_
  simp only [Option.some.injEq, Prod.mk.injEq] at hG
  obtain ⟨rfl, rfl⟩ := hG
  rw [← nums_snoc]
  exact ⟨_, [0], _, [.d (.sl 1 (nums o ++ [[num a]]))], rfl, rfl, rfl, rfl, rfl, PWs.refl _, rfl⟩
theorem rvis_all (G : Glob) (he : ∀ e, e ∈ edges → 0 ≤ e.t ∧ e.t < n) (hbig : edges.length ≤ 1000) (hp : (points == 0) = false) : ∀ m, RVisOk vars arrays points edges heads n G m
  | 0 => fun a s o s' _ _ _ _ _ _ h => by simp [visF] at h
  | m + 1 => rvis_step vars arrays points edges heads n G he hbig hp m (rvis_all G he hbig hp m)
theorem rvis_zero (G : Glob) (cs : List Value) : Spec Tryz.prog G 92 [.d (.agg (Gr.cs ⟨vars, arrays, 0, edges, heads⟩)), .d (num 0), .arr 0 0 n] [.vec 4 cs] (.ret (.d (.sl 1 []))) [.vec 4 cs] := by
  refine spec_of_awp2 TT_ok (N := 57) Tryz.func92 rfl (by rfl) (Nat.le_refl _) rfl ?_
  refine awp_seq ?_; refine rgn fun pan K hp hK => ?_; refine hK _ ?_; clear hK hp K pan; refine awp_norm [1, 2, 3] rfl rfl ?_; refine awp_seq ?_; refine awp_seq ?_; refine rgn fun pan K hp hK => ?_; refine hK _ ?_; clear hK hp K pan; refine awp_norm [1, 2, 3, 11] rfl rfl ?_
  refine awp_cond2 rfl (onB_intro (fun h1 => ?_) (fun h1 => ?_))
  · refine awp_seq ?_; refine rgn fun pan K hp hK => ?_; refine hK _ ?_; clear hK hp K pan; refine awp_norm [6] rfl rfl ?_; refine awp_ret ?_
    exact ⟨_, [0], _, [.d (.sl 1 [])], rfl, rfl, rfl, rfl, rfl, PWs.cons (PW.d (DW.nil _)) PWs.nil, rfl⟩
  cases h1
theorem orderOf_some (G : Glob) (he : ∀ e, e ∈ edges → 0 ≤ e.t ∧ e.t < n) (hbig : edges.length ≤ 1000) (hn0 : 0 < n) (hn1 : n ≤ 1000) (o : List Int) (s1 : List Bool) (hv : visF edges n 0 (List.replicate n false) = some (o, s1)) (ho : o.length ≤ 1000) : Spec Tryz.prog G 29 [.d (.agg (Gr.cs ⟨vars, arrays, n, edges, heads⟩))] [] (.ret (.d (.sl 1 (nums o.reverse)))) [] := by
  have hp : (((n : Int)) == 0) = false := by
    rw [beq_eq_false_iff_ne]; omega
  have sp := rvis_all vars arrays n edges heads n G he hbig hp n 0 (List.replicate n false) o s1 (by omega) (by omega) (by simp) (by simp [seenAt, List.getD_eq_getElem?_getD, hn0]) (by simp) (by simp; omega) hv
  generalize hcs : bvs s1 = cs at sp
  refine spec_of_awp2 TT_ok (N := 28) Tryz.func29 rfl (by rfl) (Nat.le_refl _) rfl ?_
  refine awp_seq ?_; refine rgn fun pan K hp hK => ?_; refine hK _ ?_; clear hK hp K pan; refine awp_norm [1] rfl rfl ?_; refine awp_seq ?_; refine rgn fun pan K hp hK => ?_
  refine And.intro rfl (Exists.intro _ (And.intro rfl (And.intro (by show 1 * n ≤ 281474976710656; omega) (And.intro (by simp only [maxLen]; omega) ?_))))
  refine hK _ ?_; clear hK hp K pan
  refine awp_vec 1 (ty := 4) (xs := bvs (List.replicate n false)) (congrArg (fun c => some (Row.box 4 c)) (bpv_rep n)) ?_
  refine awp_norm [1, 3] rfl rfl ?_; refine awp_seq ?_; refine rgn fun pan K hp hK => ?_; show aCall _ _ _ _ _ _ _
  refine aCall_ret (L := [1]) rfl rfl rfl sp rfl rfl rfl rfl ?_
  refine hK _ ?_; clear hK hp K pan; refine awp_norm [4] rfl rfl ?_; refine awp_seq ?_; refine rgn fun pan K hp hK => ?_; refine hK _ ?_; clear hK hp K pan; refine awp_norm [4, 5] rfl rfl ?_
  refine awp_acc 5 3 1 rfl rfl rfl ?_
  refine awp_norm [4, 5] rfl rfl ?_; refine awp_seq ?_; refine awp_seq ?_; refine rgn fun pan K hp hK => ?_; refine hK _ ?_; clear hK hp K pan; refine awp_norm [4, 5, 6] rfl rfl ?_; refine awp_block ?_
  refine awp_loop (fun k Y => ∃ (d e : List Int), k = d.length ∧ o = d ++ e ∧ Y = ⟨[(4, .d (.sl 1 (nums o))), (5, .acc 2), (6, .d (num ((d.length : Int) - 1)))], [.box 58 [.d (.sl 1 (strs vars)), .d (.sl 2 (ars arrays)), .d (num (n : Int)), .d (.sl 6 (eds edges)), .d (.sl 1 (nums heads))], .vec 4 cs, .acc 3 1 (nums e.reverse)]⟩) (o.length) (⟨o, [], rfl, by simp, by rw [nums_len, i64_id (by omega) (by omega)]; rfl⟩) ?_
  rintro k Y ⟨d, e, rfl, hl, rfl⟩
  refine awp_seq ?_; refine awp_seq ?_; refine rgn fun pan K hp hK => ?_; refine hK _ ?_; clear hK hp K pan; refine awp_norm [4, 5, 6, 17] rfl rfl ?_
  refine awp_cond2 rfl (onB_intro (fun h1 => ?_) (fun h1 => ?_))
  · have h1' := of_decide_eq_true h1
    obtain ⟨d', x, rfl⟩ : ∃ (d' : List Int) (x : Int), d = d' ++ [x] := by
      rcases List.eq_nil_or_concat d with rfl | ⟨d', x, rfl⟩
      · simp only [List.length_nil] at h1'; omega
      exact ⟨d', x, by simp⟩
    have hdx : ((d' ++ [x]).length : Int) = d'.length + 1 := by simp
    have hol : o.length = d'.length + 1 + e.length := by rw [hl]; simp only [List.length_append, List.length_singleton]
    have hat : (nums o)[((((d' ++ [x]).length : Nat) : Int) - 1).toNat]? = some [num x] := by
      have := nums_at (l := o) (d := d') (x := x) (e := e) (by rw [hl]; simp)
      rw [hdx, Int.add_sub_cancel]
      exact this
    have e6 : IntKind.i64.wrap (((((d' ++ [x]).length : Nat) : Int) - 1) - 1) = (d'.length : Int) - 1 := by rw [hdx, i64_id (by omega) (by omega)]; omega
    refine awp_skip ?_; refine awp_seq ?_; refine awp_block ?_; refine rgn fun pan K hp hK => ?_
    refine And.intro (by omega) (Exists.intro _ (And.intro hat ?_))
    refine And.intro (And.intro ((by simp only [nums_len, List.length_reverse, chunk_length, List.length_nil] at *; omega)) ((by simp only [nums_len, List.length_reverse, chunk_length, List.length_nil, maxLen] at *; omega))) ?_
    refine hK _ ?_; clear hK hp K pan; refine awp_norm [4, 5, 6] rfl rfl ?_; refine rgn fun pan K hp hK => ?_; refine hK _ ?_; clear hK hp K pan
    exact ⟨d'.length, by simp, _, sub_norm (slots := [4, 5, 6]) rfl rfl, d', x :: e, rfl, by rw [hl]; simp, by rw [List.reverse_cons, ← nums_snoc, e6]; rfl⟩
  have h1' := of_decide_eq_false h1
  obtain rfl : d = [] := List.eq_nil_of_length_eq_zero (by omega)
  rw [List.nil_append] at hl
  subst hl
  refine awp_exit ?_
  refine awp_norm [5] rfl rfl ?_; refine awp_seq ?_; refine rgn fun pan K hp hK => ?_; refine hK _ ?_; clear hK hp K pan; refine awp_norm [2] rfl rfl ?_; refine awp_ret ?_
  exact ⟨_, [], _, [.d (.sl 1 (nums o.reverse))], rfl, rfl, rfl, rfl, rfl, PWs.refl _, rfl⟩
theorem orderOf_zero (G : Glob) : Spec Tryz.prog G 29 [.d (.agg (Gr.cs ⟨vars, arrays, ((0 : Nat) : Int), edges, heads⟩))] [] (.ret (.d (.sl 1 (nums [])))) [] := by
  obtain ⟨n, hn⟩ : ∃ n : Nat, n = 0 := ⟨0, rfl⟩
  obtain ⟨o, ho⟩ : ∃ o : List Int, o = [] := ⟨[], rfl⟩
  obtain ⟨cs, hcs⟩ : ∃ cs, cs = bvs (List.replicate n false) := ⟨_, rfl⟩
  have e0 : nums ([] : List Int) = nums o.reverse := by rw [ho]; rfl
  rw [e0, ← hn]
  have sp : Spec Tryz.prog G 92 [.d (.agg (Gr.cs ⟨vars, arrays, ((n : Nat) : Int), edges, heads⟩)), .d (num 0), .arr 0 0 n] [.vec 4 (bvs (List.replicate n false))] (.ret (.d (.sl 1 (nums o)))) [.vec 4 cs] := by
    subst hn ho hcs
    exact rvis_zero vars arrays edges heads 0 G _
  have hol0 : o.length = 0 := by rw [ho]; rfl
  refine spec_of_awp2 TT_ok (N := 28) Tryz.func29 rfl (by rfl) (Nat.le_refl _) rfl ?_
  refine awp_seq ?_; refine rgn fun pan K hp hK => ?_; refine hK _ ?_; clear hK hp K pan; refine awp_norm [1] rfl rfl ?_; refine awp_seq ?_; refine rgn fun pan K hp hK => ?_
  refine And.intro rfl (Exists.intro _ (And.intro rfl (And.intro (by show 1 * n ≤ 281474976710656; omega) (And.intro (by simp only [maxLen]; omega) ?_))))
  refine hK _ ?_; clear hK hp K pan
  refine awp_vec 1 (ty := 4) (xs := bvs (List.replicate n false)) (congrArg (fun c => some (Row.box 4 c)) (bpv_rep n)) ?_
  refine awp_norm [1, 3] rfl rfl ?_; refine awp_seq ?_; refine rgn fun pan K hp hK => ?_; show aCall _ _ _ _ _ _ _
  refine aCall_ret (L := [1]) rfl rfl rfl sp rfl rfl rfl rfl ?_
  refine hK _ ?_; clear hK hp K pan; refine awp_norm [4] rfl rfl ?_; refine awp_seq ?_; refine rgn fun pan K hp hK => ?_; refine hK _ ?_; clear hK hp K pan; refine awp_norm [4, 5] rfl rfl ?_
  refine awp_acc 5 3 1 rfl rfl rfl ?_
  refine awp_norm [4, 5] rfl rfl ?_; refine awp_seq ?_; refine awp_seq ?_; refine rgn fun pan K hp hK => ?_; refine hK _ ?_; clear hK hp K pan; refine awp_norm [4, 5, 6] rfl rfl ?_; refine awp_block ?_
  refine awp_loop (fun k Y => ∃ (d e : List Int), k = d.length ∧ o = d ++ e ∧ Y = ⟨[(4, .d (.sl 1 (nums o))), (5, .acc 2), (6, .d (num ((d.length : Int) - 1)))], [.box 58 [.d (.sl 1 (strs vars)), .d (.sl 2 (ars arrays)), .d (num (n : Int)), .d (.sl 6 (eds edges)), .d (.sl 1 (nums heads))], .vec 4 cs, .acc 3 1 (nums e.reverse)]⟩) (o.length) (⟨o, [], rfl, by simp, by rw [nums_len, i64_id (by omega) (by omega)]; rfl⟩) ?_
  rintro k Y ⟨d, e, rfl, hl, rfl⟩
  refine awp_seq ?_; refine awp_seq ?_; refine rgn fun pan K hp hK => ?_; refine hK _ ?_; clear hK hp K pan; refine awp_norm [4, 5, 6, 17] rfl rfl ?_
  refine awp_cond2 rfl (onB_intro (fun h1 => ?_) (fun h1 => ?_))
  · have h1' := of_decide_eq_true h1
    obtain ⟨d', x, rfl⟩ : ∃ (d' : List Int) (x : Int), d = d' ++ [x] := by
      rcases List.eq_nil_or_concat d with rfl | ⟨d', x, rfl⟩
      · simp only [List.length_nil] at h1'; omega
      exact ⟨d', x, by simp⟩
    have hdx : ((d' ++ [x]).length : Int) = d'.length + 1 := by simp
    have hol : o.length = d'.length + 1 + e.length := by rw [hl]; simp only [List.length_append, List.length_singleton]
    have hat : (nums o)[((((d' ++ [x]).length : Nat) : Int) - 1).toNat]? = some [num x] := by
      have := nums_at (l := o) (d := d') (x := x) (e := e) (by rw [hl]; simp)
      rw [hdx, Int.add_sub_cancel]
      exact this
    have e6 : IntKind.i64.wrap (((((d' ++ [x]).length : Nat) : Int) - 1) - 1) = (d'.length : Int) - 1 := by rw [hdx, i64_id (by omega) (by omega)]; omega
    refine awp_skip ?_; refine awp_seq ?_; refine awp_block ?_; refine rgn fun pan K hp hK => ?_
    refine And.intro (by omega) (Exists.intro _ (And.intro hat ?_))
    refine And.intro (And.intro ((by simp only [nums_len, List.length_reverse, chunk_length, List.length_nil] at *; omega)) ((by simp only [nums_len, List.length_reverse, chunk_length, List.length_nil, maxLen] at *; omega))) ?_
    refine hK _ ?_; clear hK hp K pan; refine awp_norm [4, 5, 6] rfl rfl ?_; refine rgn fun pan K hp hK => ?_; refine hK _ ?_; clear hK hp K pan
    exact ⟨d'.length, by simp, _, sub_norm (slots := [4, 5, 6]) rfl rfl, d', x :: e, rfl, by rw [hl]; simp, by rw [List.reverse_cons, ← nums_snoc, e6]; rfl⟩
  have h1' := of_decide_eq_false h1
  obtain rfl : d = [] := List.eq_nil_of_length_eq_zero (by omega)
  rw [List.nil_append] at hl
  subst hl
  refine awp_exit ?_
  refine awp_norm [5] rfl rfl ?_; refine awp_seq ?_; refine rgn fun pan K hp hK => ?_; refine hK _ ?_; clear hK hp K pan; refine awp_norm [2] rfl rfl ?_; refine awp_ret ?_
  exact ⟨_, [], _, [.d (.sl 1 (nums o.reverse))], rfl, rfl, rfl, rfl, rfl, PWs.refl _, rfl⟩
end
def p28_6 : Plan := (.take 0 (.take 1 (.take 2 (.load 3 (.take 4 (.take 5 (.take 6 (.load 7 (.take 8 .done)))))))))
theorem sameInts_refl (G : Glob) (l : List Int) (hb : l.length ≤ 1073741824) : Spec Tryz.prog G 28 [.d (.sl 1 (nums l)), .d (.sl 1 (nums l))] [] (.ret (.d (.s (.bool true)))) [] := by
  refine spec_of_awp2 TT_ok (N := 26) Tryz.func28 rfl (by rfl) (Nat.le_refl _) rfl ?_
  refine awp_seq ?_; refine rgn fun pan K hp hK => ?_; refine hK _ ?_; clear hK hp K pan; refine awp_norm [0, 1] rfl rfl ?_; refine awp_seq ?_; refine awp_seq ?_; refine rgn fun pan K hp hK => ?_; refine hK _ ?_; clear hK hp K pan; refine awp_norm [0, 1, 10] rfl rfl ?_
  refine awp_cond2 rfl (onB_intro (fun h1 => ?_) (fun h1 => ?_))
  · simp at h1
  refine awp_skip ?_; refine awp_seq ?_; refine awp_seq ?_; refine rgn fun pan K hp hK => ?_; refine hK _ ?_; clear hK hp K pan; refine awp_norm [0, 1, 5] rfl rfl ?_; refine awp_block ?_
  refine awp_loop (fun k Y => ∃ (d1 e1 : List Int), k = e1.length ∧ l = d1 ++ e1 ∧ Y = ⟨[(0, .d (.sl 1 (nums l))), (1, .d (.sl 1 (nums l))), (5, .d (num d1.length))], []⟩) (l.length) (⟨[], l, rfl, rfl, rfl⟩) ?_
  rintro k Y ⟨d1, e1, rfl, hl1, rfl⟩
  have hll1 : (nums l).length = d1.length + e1.length := by rw [nums_len, hl1, List.length_append]
  have hdl1 : d1.length + e1.length ≤ 1073741824 := by rw [hl1, List.length_append] at hb; exact hb
  refine awp_seq ?_; refine awp_seq ?_; refine rgn fun pan K hp hK => ?_; refine hK _ ?_; clear hK hp K pan; refine awp_norm [0, 1, 5, 14] rfl rfl ?_
  refine awp_cond2 rfl (onB_intro (fun h2 => ?_) (fun h2 => ?_))
  · have h2' := of_decide_eq_true h2
    rw [hll1] at h2'
    cases e1 with
    | nil => simp only [List.length_nil] at h2'; omega
    | cons x e1b =>
    subst hl1
    simp only [List.length_cons] at hdl1
    refine awp_skip ?_; refine awp_seq ?_; refine awp_block ?_; refine awp_seq ?_
    refine (awp_draw TT_ok mixed p28_6 [] (fun _ => true) (by kernel_rfl) fun pan K hp hK => ?_)
    refine And.intro (by omega) (Exists.intro _ (And.intro (nums_at rfl) ?_))
    refine And.intro (by omega) (Exists.intro _ (And.intro (nums_at rfl) ?_))
    refine hK _ ?_; clear hK hp K pan; refine awp_norm [0, 1, 5, 25] rfl rfl ?_
    refine awp_cond2 rfl (onB_intro (fun h3 => ?_) (fun h3 => ?_))
    · simp at h3
    refine awp_skip ?_; refine rgn fun pan K hp hK => ?_; refine hK _ ?_; clear hK hp K pan
    exact ⟨_, Nat.lt_succ_self _, _, sub_norm (slots := [0, 1, 5]) rfl rfl, d1 ++ [x], e1b, rfl, by simp, by rw [List.length_append, wrapId (by omega) (by omega)]; rfl⟩
  have h2' := of_decide_eq_false h2
  rw [hll1] at h2'
  obtain rfl : e1 = [] := List.eq_nil_of_length_eq_zero (by omega)
  rw [List.append_nil] at hl1
  subst hl1
  refine awp_exit ?_
  refine awp_norm [] rfl rfl ?_; refine awp_seq ?_; refine rgn fun pan K hp hK => ?_; refine hK _ ?_; clear hK hp K pan; refine awp_norm [4] rfl rfl ?_; refine awp_ret ?_
  exact ⟨_, [], _, [.d (.s (.bool true))], rfl, rfl, rfl, rfl, rfl, PWs.refl _, rfl⟩
end Go.Abs
end
section
namespace Go.Abs
open Go Go.Proofs
attribute [local irreducible] aCall AWp Sub Spec
theorem gv_noint {t : Nat → TypeId} {u : Nat → Value} : ∀ g v, Nat.ble g 999 = true → GV t u g = some v → ∀ i, v ≠ .int .i64 i := by
  intro g v hg h i e
  subst e
  unfold GV at h
  split at h
  · cases h
  split at h
  · cases h
  split at h
  · rename_i hk
    have := Nat.eq_of_beq_eq_true hk
    subst this
    cases hg
  split at h
  · cases h
  cases h
section
variable {t : Nat → TypeId} {u : Nat → Value} (vars : List ByteArray) (arrays : List Ar) (points : Int) (edges : List Ed) (heads : List Int)
def p26_2 : Plan := (.load 0 (.take 1 (.take 2 .done)))
def p26_7 : Plan := (.load 0 (.take 1 (.take 2 .done)))
def p26_13 : Plan := (.load 0 (.take 1 (.take 2 .done)))
theorem order_bad (hb1 : edges.length ≤ 200) (hb2 : heads.length ≤ 200) (bE bH : Bool) (hE : badE points edges = bE) (hH : badH points heads = bH) (hbad : ((decide (points < 0) || decide (points > 120)) || (bE || bH)) = true) : Spec Tryz.prog (GV t u) 26 [.d (.agg (Gr.cs ⟨vars, arrays, points, edges, heads⟩))] [] (.ret (.tup [.d (.sl 1 []), .d (.s (.iface (t 1) (u 1)))])) [] := by
  have hb1' : edges.length ≤ 1073741824 := by omega
  have hb2' : heads.length ≤ 1073741824 := by omega
  refine spec_of_awp2 TT_ok (N := 86) Tryz.func26 rfl (by rfl) (Nat.le_refl _) rfl ?_
  refine awp_seq ?_; refine rgn fun pan K hp hK => ?_; refine hK _ ?_; clear hK hp K pan; refine awp_norm [1] rfl rfl ?_; refine awp_seq ?_; refine awp_seq ?_; refine rgn fun pan K hp hK => ?_
  refine onB_intro (fun h1 => ?_) (fun h1 => ?_)
  · refine hK _ ?_; clear hK hp K pan; refine awp_norm [1, 24] rfl rfl ?_; refine awp_cond rfl ?_; refine awp_seq ?_
    refine (awp_draw TT_ok mixed p26_2 [] (fun _ => true) (by kernel_rfl) fun pan K hp hK => ?_)
    refine hK _ ?_; clear hK hp K pan; refine awp_norm [2, 3] rfl rfl ?_; refine awp_ret ?_
    exact ⟨_, [], _, [.d (.sl 1 []), .d (.s (.iface (t 1) (u 1)))], rfl, rfl, rfl, rfl, rfl, .cons (.d (.nil 1)) (.cons (.refl _) .nil), rfl⟩
  refine onB_intro (fun h2 => ?_) (fun h2 => ?_)
  · refine hK _ ?_; clear hK hp K pan; refine awp_norm [1, 24] rfl rfl ?_; refine awp_cond rfl ?_; refine awp_seq ?_
    refine (awp_draw TT_ok mixed p26_2 [] (fun _ => true) (by kernel_rfl) fun pan K hp hK => ?_)
    refine hK _ ?_; clear hK hp K pan; refine awp_norm [2, 3] rfl rfl ?_; refine awp_ret ?_
    exact ⟨_, [], _, [.d (.sl 1 []), .d (.s (.iface (t 1) (u 1)))], rfl, rfl, rfl, rfl, rfl, .cons (.d (.nil 1)) (.cons (.refl _) .nil), rfl⟩
  refine hK _ ?_; clear hK hp K pan; refine awp_norm [1, 24] rfl rfl ?_
  refine awp_cond2 rfl (onB_intro (fun h3 => ?_) (fun h3 => ?_))
  · refine awp_seq ?_
    refine (awp_draw TT_ok mixed p26_2 [] (fun _ => true) (by kernel_rfl) fun pan K hp hK => ?_)
    refine hK _ ?_; clear hK hp K pan; refine awp_norm [2, 3] rfl rfl ?_; refine awp_ret ?_
    exact ⟨_, [], _, [.d (.sl 1 []), .d (.s (.iface (t 1) (u 1)))], rfl, rfl, rfl, rfl, rfl, .cons (.d (.nil 1)) (.cons (.refl _) .nil), rfl⟩
  refine awp_skip ?_; refine awp_seq ?_; refine awp_seq ?_; refine rgn fun pan K hp hK => ?_; refine hK _ ?_; clear hK hp K pan; refine awp_norm [1, 27, 28, 29] rfl rfl ?_; refine awp_block ?_
  refine awp_loop (fun k Y => ∃ (d1 e1 : List Ed) , k = e1.length ∧ edges = d1 ++ e1 ∧ badE points e1 = bE ∧ Y = ⟨[(1, .box 0 0), (27, .d (.sl 6 (eds edges))), (28, .d (num (eds edges).length)), (29, .d (num d1.length))], [.box 69 [.d (.sl 1 (strs vars)), .d (.sl 2 (ars arrays)), .d (num points), .d (.sl 6 (eds edges)), .d (.sl 1 (nums heads))]]⟩) (edges.length) (⟨[], edges, rfl, rfl, hE, rfl⟩) ?_
  clear hE
  rintro k Y ⟨d1, e1, rfl, hl1, hE, rfl⟩
  have hll1 : (eds edges).length = d1.length + e1.length := by rw [eds_len, hl1, List.length_append]
  have hdl1 : d1.length + e1.length ≤ 1073741824 := by rw [hl1, List.length_append] at hb1'; exact hb1'
  refine awp_seq ?_; refine rgn fun pan K hp hK => ?_; refine hK _ ?_; clear hK hp K pan; refine awp_norm [1, 27, 28, 29, 30] rfl rfl ?_; refine awp_seq ?_
  refine awp_cond2 rfl (onB_intro (fun h4 => ?_) (fun h4 => ?_))
  · have h4' := of_decide_eq_true h4
    rw [hll1] at h4'
    cases e1 with
    | nil => simp only [List.length_nil] at h4'; omega
    | cons x e1b =>
    obtain ⟨fr, tt, kind, name, args, tests⟩ := x
    subst hl1
    simp only [List.length_cons] at hdl1
    simp only [badE] at hE
    refine awp_skip ?_; refine awp_seq ?_; refine awp_block ?_; refine awp_seq ?_; refine rgn fun pan K hp hK => ?_
    refine And.intro (by omega) (Exists.intro _ (And.intro (eds_at rfl) ?_))
    refine hK _ ?_; clear hK hp K pan; refine awp_norm [1, 5, 27, 28, 29] rfl rfl ?_; refine awp_seq ?_; refine rgn fun pan K hp hK => ?_
    refine onB_intro (fun h5 => ?_) (fun h5 => ?_)
    · refine hK _ ?_; clear hK hp K pan; refine awp_norm [1, 27, 28, 29, 54] rfl rfl ?_; refine awp_cond rfl ?_; refine awp_seq ?_
      refine (awp_draw TT_ok mixed p26_7 [] (fun _ => true) (by kernel_rfl) fun pan K hp hK => ?_)
      refine hK _ ?_; clear hK hp K pan; refine awp_norm [2, 3] rfl rfl ?_; refine awp_ret ?_
      exact ⟨_, [], _, [.d (.sl 1 []), .d (.s (.iface (t 1) (u 1)))], rfl, rfl, rfl, rfl, rfl, .cons (.d (.nil 1)) (.cons (.refl _) .nil), rfl⟩
    refine onB_intro (fun h6 => ?_) (fun h6 => ?_)
    · refine hK _ ?_; clear hK hp K pan; refine awp_norm [1, 27, 28, 29, 54] rfl rfl ?_; refine awp_cond rfl ?_; refine awp_seq ?_
      refine (awp_draw TT_ok mixed p26_7 [] (fun _ => true) (by kernel_rfl) fun pan K hp hK => ?_)
      refine hK _ ?_; clear hK hp K pan; refine awp_norm [2, 3] rfl rfl ?_; refine awp_ret ?_
      exact ⟨_, [], _, [.d (.sl 1 []), .d (.s (.iface (t 1) (u 1)))], rfl, rfl, rfl, rfl, rfl, .cons (.d (.nil 1)) (.cons (.refl _) .nil), rfl⟩
    refine onB_intro (fun h7 => ?_) (fun h7 => ?_)
    · refine hK _ ?_; clear hK hp K pan; refine awp_norm [1, 27, 28, 29, 54] rfl rfl ?_; refine awp_cond rfl ?_; refine awp_seq ?_
      refine (awp_draw TT_ok mixed p26_7 [] (fun _ => true) (by kernel_rfl) fun pan K hp hK => ?_)
      refine hK _ ?_; clear hK hp K pan; refine awp_norm [2, 3] rfl rfl ?_; refine awp_ret ?_
      exact ⟨_, [], _, [.d (.sl 1 []), .d (.s (.iface (t 1) (u 1)))], rfl, rfl, rfl, rfl, rfl, .cons (.d (.nil 1)) (.cons (.refl _) .nil), rfl⟩
    refine hK _ ?_; clear hK hp K pan; refine awp_norm [1, 27, 28, 29, 54] rfl rfl ?_
    refine awp_cond2 rfl (onB_intro (fun h8 => ?_) (fun h8 => ?_))
    · refine awp_seq ?_
      refine (awp_draw TT_ok mixed p26_7 [] (fun _ => true) (by kernel_rfl) fun pan K hp hK => ?_)
      refine hK _ ?_; clear hK hp K pan; refine awp_norm [2, 3] rfl rfl ?_; refine awp_ret ?_
      exact ⟨_, [], _, [.d (.sl 1 []), .d (.s (.iface (t 1) (u 1)))], rfl, rfl, rfl, rfl, rfl, .cons (.d (.nil 1)) (.cons (.refl _) .nil), rfl⟩
    refine awp_skip ?_; refine rgn fun pan K hp hK => ?_; refine hK _ ?_; clear hK hp K pan
    simp only [h5, h6, h7, h8, Bool.false_or, Bool.or_self] at hE
    exact ⟨_, Nat.lt_succ_self _, _, sub_pick (L := [0]) (slots := [1, 27, 28, 29]) rfl rfl rfl rfl rfl, d1 ++ [⟨fr, tt, kind, name, args, tests⟩], e1b, rfl, by simp, hE, by rw [List.length_append, wrapId (by omega) (by omega)]; rfl⟩
  have h4' := of_decide_eq_false h4
  rw [hll1] at h4'
  obtain rfl : e1 = [] := List.eq_nil_of_length_eq_zero (by omega)
  simp only [badE] at hE
  subst hE
  refine awp_exit ?_
  refine awp_norm [1] rfl rfl ?_; refine awp_seq ?_; refine awp_seq ?_; refine rgn fun pan K hp hK => ?_; refine hK _ ?_; clear hK hp K pan; refine awp_norm [1, 58, 59, 60] rfl rfl ?_; refine awp_block ?_
  refine awp_loop (fun k Y => ∃ (d2 e2 : List Int) , k = e2.length ∧ heads = d2 ++ e2 ∧ badH points e2 = bH ∧ Y = ⟨[(1, .box 0 0), (58, .d (.sl 1 (nums heads))), (59, .d (num (nums heads).length)), (60, .d (num d2.length))], [.box 69 [.d (.sl 1 (strs vars)), .d (.sl 2 (ars arrays)), .d (num points), .d (.sl 6 (eds edges)), .d (.sl 1 (nums heads))]]⟩) (heads.length) (⟨[], heads, rfl, rfl, hH, rfl⟩) ?_
  clear hH
  rintro k Y ⟨d2, e2, rfl, hl2, hH, rfl⟩
  have hll2 : (nums heads).length = d2.length + e2.length := by rw [nums_len, hl2, List.length_append]
  have hdl2 : d2.length + e2.length ≤ 1073741824 := by rw [hl2, List.length_append] at hb2'; exact hb2'
  refine awp_seq ?_; refine rgn fun pan K hp hK => ?_; refine hK _ ?_; clear hK hp K pan; refine awp_norm [1, 58, 59, 60, 61] rfl rfl ?_; refine awp_seq ?_
  refine awp_cond2 rfl (onB_intro (fun h5 => ?_) (fun h5 => ?_))
  · have h5' := of_decide_eq_true h5
    rw [hll2] at h5'
    cases e2 with
    | nil => simp only [List.length_nil] at h5'; omega
    | cons x e2b =>
    subst hl2
    simp only [List.length_cons] at hdl2
    simp only [badH] at hH
    refine awp_skip ?_; refine awp_seq ?_; refine awp_block ?_; refine awp_seq ?_; refine rgn fun pan K hp hK => ?_
    refine And.intro (by omega) (Exists.intro _ (And.intro (nums_at rfl) ?_))
    refine hK _ ?_; clear hK hp K pan; refine awp_norm [1, 7, 58, 59, 60] rfl rfl ?_; refine awp_seq ?_; refine rgn fun pan K hp hK => ?_
    refine onB_intro (fun h6 => ?_) (fun h6 => ?_)
    · refine hK _ ?_; clear hK hp K pan; refine awp_norm [1, 58, 59, 60, 71] rfl rfl ?_; refine awp_cond rfl ?_; refine awp_seq ?_
      refine (awp_draw TT_ok mixed p26_13 [] (fun _ => true) (by kernel_rfl) fun pan K hp hK => ?_)
      refine hK _ ?_; clear hK hp K pan; refine awp_norm [2, 3] rfl rfl ?_; refine awp_ret ?_
      exact ⟨_, [], _, [.d (.sl 1 []), .d (.s (.iface (t 1) (u 1)))], rfl, rfl, rfl, rfl, rfl, .cons (.d (.nil 1)) (.cons (.refl _) .nil), rfl⟩
    refine hK _ ?_; clear hK hp K pan; refine awp_norm [1, 58, 59, 60, 71] rfl rfl ?_
    refine awp_cond2 rfl (onB_intro (fun h7 => ?_) (fun h7 => ?_))
    · refine awp_seq ?_
      refine (awp_draw TT_ok mixed p26_13 [] (fun _ => true) (by kernel_rfl) fun pan K hp hK => ?_)
      refine hK _ ?_; clear hK hp K pan; refine awp_norm [2, 3] rfl rfl ?_; refine awp_ret ?_
      exact ⟨_, [], _, [.d (.sl 1 []), .d (.s (.iface (t 1) (u 1)))], rfl, rfl, rfl, rfl, rfl, .cons (.d (.nil 1)) (.cons (.refl _) .nil), rfl⟩
    refine awp_skip ?_; refine rgn fun pan K hp hK => ?_; refine hK _ ?_; clear hK hp K pan
    simp only [h6, h7, Bool.false_or, Bool.or_self] at hH
    exact ⟨_, Nat.lt_succ_self _, _, sub_pick (L := [0]) (slots := [1, 58, 59, 60]) rfl rfl rfl rfl rfl, d2 ++ [x], e2b, rfl, by simp, hH, by rw [List.length_append, wrapId (by omega) (by omega)]; rfl⟩
  have h5' := of_decide_eq_false h5
  rw [hll2] at h5'
  obtain rfl : e2 = [] := List.eq_nil_of_length_eq_zero (by omega)
  simp only [badH] at hH
  subst hH
  simp only [h1, h2, Bool.or_self] at hbad
  cases hbad
variable (n : Nat)
theorem order_pos (hb1 : edges.length ≤ 200) (hb2 : heads.length ≤ 200) (hn0 : 0 < n) (hn1 : n ≤ 120) (hpt : points = (n : Int)) (hE : badE points edges = false) (hH : badH points heads = false) (o : List Int) (s1 : List Bool) (hv : visF edges n 0 (List.replicate n false) = some (o, s1)) (ho : o.length ≤ 1000) : Spec Tryz.prog (GV t u) 26 [.d (.agg (Gr.cs ⟨vars, arrays, points, edges, heads⟩))] [] (.ret (.tup [.d (.sl 1 (nums o.reverse)), .d (.s .nilIface)])) [] := by
  have hb1' : edges.length ≤ 1073741824 := by omega
  have hb2' : heads.length ≤ 1073741824 := by omega
  have hp1 : 0 ≤ points := by omega
  have hp2 : points ≤ 120 := by omega
  have sp := vis_all vars arrays points edges heads n (GV t u) (fun e he => by have := badE_mem points edges hE e he; omega) (by omega) n 0 (List.replicate n false) [] o s1 (by omega) (by omega) (by simp) (by simp [seenAt, List.getD_eq_getElem?_getD, hn0]) (by simp) (by simp; omega) hv
  rw [List.nil_append] at sp
  refine spec_of_gw (N := 86) Tryz.func26 rfl (by rfl) (Nat.le_refl _) rfl ?_
  intro H0 lim0 w0 hn
  refine gw_seq_awp ?_
  refine rgn fun pan K hp hK => ?_; refine hK _ ?_; clear hK hp K pan
  refine gw_norm [1] rfl rfl ?_
  refine gw_seq_awp ?_
  refine awp_seq ?_; refine rgn fun pan K hp hK => ?_
  refine onB_intro (fun h1 => ?_) (fun h1 => ?_)
  · have hq := of_decide_eq_true h1
    try simp only at hq
    omega
  refine onB_intro (fun h2 => ?_) (fun h2 => ?_)
  · have hq := of_decide_eq_true h2
    try simp only at hq
    omega
  refine hK _ ?_; clear hK hp K pan; refine awp_norm [1, 24] rfl rfl ?_
  refine awp_cond2 rfl (onB_intro (fun h3 => ?_) (fun h3 => ?_))
  · have := of_decide_eq_true h3; rw [eds_len] at this; (try simp only at this); omega
  refine awp_skip ?_
  refine gw_norm [1] rfl rfl ?_
  refine gw_seq_awp ?_
  refine awp_seq ?_; refine rgn fun pan K hp hK => ?_; refine hK _ ?_; clear hK hp K pan; refine awp_norm [1, 27, 28, 29] rfl rfl ?_; refine awp_block ?_
  refine awp_loop (fun k Y => ∃ (d1 e1 : List Ed) , k = e1.length ∧ edges = d1 ++ e1 ∧ badE points e1 = false ∧ Y = ⟨[(1, .box 0 0), (27, .d (.sl 6 (eds edges))), (28, .d (num (eds edges).length)), (29, .d (num d1.length))], [.box 69 [.d (.sl 1 (strs vars)), .d (.sl 2 (ars arrays)), .d (num points), .d (.sl 6 (eds edges)), .d (.sl 1 (nums heads))]]⟩) (edges.length) (⟨[], edges, rfl, rfl, hE, rfl⟩) ?_
  clear hE
  rintro k Y ⟨d1, e1, rfl, hl1, hE, rfl⟩
  have hll1 : (eds edges).length = d1.length + e1.length := by rw [eds_len, hl1, List.length_append]
  have hdl1 : d1.length + e1.length ≤ 1073741824 := by rw [hl1, List.length_append] at hb1'; exact hb1'
  refine awp_seq ?_; refine rgn fun pan K hp hK => ?_; refine hK _ ?_; clear hK hp K pan; refine awp_norm [1, 27, 28, 29, 30] rfl rfl ?_; refine awp_seq ?_
  refine awp_cond2 rfl (onB_intro (fun h4 => ?_) (fun h4 => ?_))
  · have h4' := of_decide_eq_true h4
    rw [hll1] at h4'
    cases e1 with
    | nil => simp only [List.length_nil] at h4'; omega
    | cons x e1b =>
    obtain ⟨fr, tt, kind, name, args, tests⟩ := x
    subst hl1
    simp only [List.length_cons] at hdl1
    simp only [badE] at hE
    refine awp_skip ?_; refine awp_seq ?_; refine awp_block ?_; refine awp_seq ?_; refine rgn fun pan K hp hK => ?_
    refine And.intro (by omega) (Exists.intro _ (And.intro (eds_at rfl) ?_))
    refine hK _ ?_; clear hK hp K pan; refine awp_norm [1, 5, 27, 28, 29] rfl rfl ?_; refine awp_seq ?_; refine rgn fun pan K hp hK => ?_
    refine onB_intro (fun h5 => ?_) (fun h5 => ?_)
    · simp only [h5, Bool.true_or] at hE
      cases hE
    refine onB_intro (fun h6 => ?_) (fun h6 => ?_)
    · simp only [h5, h6, Bool.true_or, Bool.or_true] at hE
      cases hE
    refine onB_intro (fun h7 => ?_) (fun h7 => ?_)
    · simp only [h5, h6, h7, Bool.true_or, Bool.or_true, Bool.or_self] at hE
      cases hE
    refine hK _ ?_; clear hK hp K pan; refine awp_norm [1, 27, 28, 29, 54] rfl rfl ?_
    refine awp_cond2 rfl (onB_intro (fun h8 => ?_) (fun h8 => ?_))
    · simp only [h5, h6, h7, h8, Bool.true_or, Bool.or_true, Bool.or_self] at hE
      cases hE
    refine awp_skip ?_; refine rgn fun pan K hp hK => ?_; refine hK _ ?_; clear hK hp K pan
    simp only [h5, h6, h7, h8, Bool.false_or, Bool.or_self] at hE
    exact ⟨_, Nat.lt_succ_self _, _, sub_pick (L := [0]) (slots := [1, 27, 28, 29]) rfl rfl rfl rfl rfl, d1 ++ [⟨fr, tt, kind, name, args, tests⟩], e1b, rfl, by simp, hE, by rw [List.length_append, wrapId (by omega) (by omega)]; rfl⟩
  have h4' := of_decide_eq_false h4
  rw [hll1] at h4'
  obtain rfl : e1 = [] := List.eq_nil_of_length_eq_zero (by omega)
  simp only [badE] at hE
  refine awp_exit ?_
  refine gw_norm [1] rfl rfl ?_
  refine gw_seq_awp ?_
  refine awp_seq ?_; refine rgn fun pan K hp hK => ?_; refine hK _ ?_; clear hK hp K pan; refine awp_norm [1, 58, 59, 60] rfl rfl ?_; refine awp_block ?_
  refine awp_loop (fun k Y => ∃ (d2 e2 : List Int) , k = e2.length ∧ heads = d2 ++ e2 ∧ badH points e2 = false ∧ Y = ⟨[(1, .box 0 0), (58, .d (.sl 1 (nums heads))), (59, .d (num (nums heads).length)), (60, .d (num d2.length))], [.box 69 [.d (.sl 1 (strs vars)), .d (.sl 2 (ars arrays)), .d (num points), .d (.sl 6 (eds edges)), .d (.sl 1 (nums heads))]]⟩) (heads.length) (⟨[], heads, rfl, rfl, hH, rfl⟩) ?_
  clear hH
  rintro k Y ⟨d2, e2, rfl, hl2, hH, rfl⟩
  have hll2 : (nums heads).length = d2.length + e2.length := by rw [nums_len, hl2, List.length_append]
  have hdl2 : d2.length + e2.length ≤ 1073741824 := by rw [hl2, List.length_append] at hb2'; exact hb2'
  refine awp_seq ?_; refine rgn fun pan K hp hK => ?_; refine hK _ ?_; clear hK hp K pan; refine awp_norm [1, 58, 59, 60, 61] rfl rfl ?_; refine awp_seq ?_
  refine awp_cond2 rfl (onB_intro (fun h5 => ?_) (fun h5 => ?_))
  · have h5' := of_decide_eq_true h5
    rw [hll2] at h5'
    cases e2 with
    | nil => simp only [List.length_nil] at h5'; omega
    | cons x e2b =>
    subst hl2
    simp only [List.length_cons] at hdl2
    simp only [badH] at hH
    refine awp_skip ?_; refine awp_seq ?_; refine awp_block ?_; refine awp_seq ?_; refine rgn fun pan K hp hK => ?_
    refine And.intro (by omega) (Exists.intro _ (And.intro (nums_at rfl) ?_))
    refine hK _ ?_; clear hK hp K pan; refine awp_norm [1, 7, 58, 59, 60] rfl rfl ?_; refine awp_seq ?_; refine rgn fun pan K hp hK => ?_
    refine onB_intro (fun h6 => ?_) (fun h6 => ?_)
    · simp only [h6, Bool.true_or] at hH
      cases hH
    refine hK _ ?_; clear hK hp K pan; refine awp_norm [1, 58, 59, 60, 71] rfl rfl ?_
    refine awp_cond2 rfl (onB_intro (fun h7 => ?_) (fun h7 => ?_))
    · simp only [h6, h7, Bool.true_or, Bool.or_true] at hH
      cases hH
    refine awp_skip ?_; refine rgn fun pan K hp hK => ?_; refine hK _ ?_; clear hK hp K pan
    simp only [h6, h7, Bool.false_or, Bool.or_self] at hH
    exact ⟨_, Nat.lt_succ_self _, _, sub_pick (L := [0]) (slots := [1, 58, 59, 60]) rfl rfl rfl rfl rfl, d2 ++ [x], e2b, rfl, by simp, hH, by rw [List.length_append, wrapId (by omega) (by omega)]; rfl⟩
  have h5' := of_decide_eq_false h5
  rw [hll2] at h5'
  obtain rfl : e2 = [] := List.eq_nil_of_length_eq_zero (by omega)
  simp only [badH] at hH
  refine awp_exit ?_
  refine gw_norm [1] rfl rfl ?_
  refine gw_seq_awp ?_
  refine rgn fun pan K hp hK => ?_; refine hK _ ?_; clear hK hp K pan
  refine gw_norm [1, 8] rfl rfl ?_
  refine gw_seq_awp ?_
  refine rgn fun pan K hp hK => ?_
  refine And.intro rfl (Exists.intro n (And.intro hpt (And.intro (by show 1 * n ≤ 281474976710656; omega) (And.intro (by simp only [maxLen]; omega) ?_))))
  refine hK _ ?_; clear hK hp K pan
  refine gw_sub (sub_vec 2 (ty := 4) (xs := bvs (List.replicate n false)) (congrArg (fun c => some (Row.box 4 c)) (bpv_rep n))) ?_
  refine gw_norm [1, 8, 9] rfl rfl ?_
  refine gw_seq_awp ?_
  refine rgn fun pan K hp hK => ?_; refine hK _ ?_; clear hK hp K pan
  refine gw_norm [1, 8, 9, 10] rfl rfl ?_
  refine gw_seq_awp ?_
  refine rgn fun pan K hp hK => ?_; refine hK _ ?_; clear hK hp K pan
  refine gw_norm [1, 8, 10] rfl rfl ?_
  refine gw_sub (sub_accCell (id := 1) (off := 0) 3 1 rfl rfl rfl (Nat.zero_le _)) ?_
  refine gw_norm [1, 8, 10] rfl rfl ?_
  refine gw_seq_awp ?_
  refine awp_seq ?_; refine rgn fun pan K hp hK => ?_; refine hK _ ?_; clear hK hp K pan; refine awp_norm [8, 10, 80] rfl rfl ?_
  refine awp_cond2 rfl (onB_intro (fun h6 => ?_) (fun h6 => ?_))
  · refine rgn fun pan K hp hK => ?_; show aCall _ _ _ _ _ _ _
    refine aCall_ret (L := [0, 1, 2, 3, 4, 5]) rfl rfl rfl sp rfl rfl rfl rfl ?_
    refine hK _ ?_; clear hK hp K pan
    refine gw_sub (sub_pick (L := [1, 5]) (slots := [8]) rfl rfl rfl rfl rfl) ?_
    refine gw_seq_reverse (xs := o) TT_ok rfl rfl rfl rfl rfl rfl rfl rfl rfl (by decide) (by omega) (fun i => hn i (Nat.zero_le _)) gv_noint ?_
    refine gw_seq_region TT_ok fun pan K hp hK => ?_
    refine hK _ ?_; clear hK hp K pan
    refine gw_norm [2, 3] rfl rfl ?_
    refine gw_ret (end_plain TT_ok hn ?_)
    exact ⟨_, [], _, [.d (.sl 1 (nums o.reverse)), .d (.s .nilIface)], rfl, rfl, rfl, rfl, rfl, PWs.refl _, rfl⟩
  have := of_decide_eq_false h6; omega
theorem order_zero (hb1 : edges.length ≤ 200) (hb2 : heads.length ≤ 200) (hn0 : n = 0) (hpt : points = (n : Int)) (hE : badE points edges = false) (hH : badH points heads = false) : Spec Tryz.prog (GV t u) 26 [.d (.agg (Gr.cs ⟨vars, arrays, points, edges, heads⟩))] [] (.ret (.tup [.d (.sl 1 (nums [])), .d (.s .nilIface)])) [] := by
  have hb1' : edges.length ≤ 1073741824 := by omega
  have hb2' : heads.length ≤ 1073741824 := by omega
  have hp1 : 0 ≤ points := by omega
  have hp2 : points ≤ 120 := by omega
  have hn1 : n ≤ 120 := by omega
  refine spec_of_gw (N := 86) Tryz.func26 rfl (by rfl) (Nat.le_refl _) rfl ?_
  intro H0 lim0 w0 hn
  refine gw_seq_awp ?_
  refine rgn fun pan K hp hK => ?_; refine hK _ ?_; clear hK hp K pan
  refine gw_norm [1] rfl rfl ?_
  refine gw_seq_awp ?_
  refine awp_seq ?_; refine rgn fun pan K hp hK => ?_
  refine onB_intro (fun h1 => ?_) (fun h1 => ?_)
  · have hq := of_decide_eq_true h1
    try simp only at hq
    omega
  refine onB_intro (fun h2 => ?_) (fun h2 => ?_)
  · have hq := of_decide_eq_true h2
    try simp only at hq
    omega
  refine hK _ ?_; clear hK hp K pan; refine awp_norm [1, 24] rfl rfl ?_
  refine awp_cond2 rfl (onB_intro (fun h3 => ?_) (fun h3 => ?_))
  · have := of_decide_eq_true h3; rw [eds_len] at this; (try simp only at this); omega
  refine awp_skip ?_
  refine gw_norm [1] rfl rfl ?_
  refine gw_seq_awp ?_
  refine awp_seq ?_; refine rgn fun pan K hp hK => ?_; refine hK _ ?_; clear hK hp K pan; refine awp_norm [1, 27, 28, 29] rfl rfl ?_; refine awp_block ?_
  refine awp_loop (fun k Y => ∃ (d1 e1 : List Ed) , k = e1.length ∧ edges = d1 ++ e1 ∧ badE points e1 = false ∧ Y = ⟨[(1, .box 0 0), (27, .d (.sl 6 (eds edges))), (28, .d (num (eds edges).length)), (29, .d (num d1.length))], [.box 69 [.d (.sl 1 (strs vars)), .d (.sl 2 (ars arrays)), .d (num points), .d (.sl 6 (eds edges)), .d (.sl 1 (nums heads))]]⟩) (edges.length) (⟨[], edges, rfl, rfl, hE, rfl⟩) ?_
  clear hE
  rintro k Y ⟨d1, e1, rfl, hl1, hE, rfl⟩
  have hll1 : (eds edges).length = d1.length + e1.length := by rw [eds_len, hl1, List.length_append]
  have hdl1 : d1.length + e1.length ≤ 1073741824 := by rw [hl1, List.length_append] at hb1'; exact hb1'
  refine awp_seq ?_; refine rgn fun pan K hp hK => ?_; refine hK _ ?_; clear hK hp K pan; refine awp_norm [1, 27, 28, 29, 30] rfl rfl ?_; refine awp_seq ?_
  refine awp_cond2 rfl (onB_intro (fun h4 => ?_) (fun h4 => ?_))
  · have h4' := of_decide_eq_true h4
    rw [hll1] at h4'
    cases e1 with
    | nil => simp only [List.length_nil] at h4'; omega
    | cons x e1b =>
    obtain ⟨fr, tt, kind, name, args, tests⟩ := x
    subst hl1
    simp only [List.length_cons] at hdl1
    simp only [badE] at hE
    refine awp_skip ?_; refine awp_seq ?_; refine awp_block ?_; refine awp_seq ?_; refine rgn fun pan K hp hK => ?_
    refine And.intro (by omega) (Exists.intro _ (And.intro (eds_at rfl) ?_))
    refine hK _ ?_; clear hK hp K pan; refine awp_norm [1, 5, 27, 28, 29] rfl rfl ?_; refine awp_seq ?_; refine rgn fun pan K hp hK => ?_
    refine onB_intro (fun h5 => ?_) (fun h5 => ?_)
    · simp only [h5, Bool.true_or] at hE
      cases hE
    refine onB_intro (fun h6 => ?_) (fun h6 => ?_)
    · simp only [h5, h6, Bool.true_or, Bool.or_true] at hE
      cases hE
    refine onB_intro (fun h7 => ?_) (fun h7 => ?_)
    · simp only [h5, h6, h7, Bool.true_or, Bool.or_true, Bool.or_self] at hE
      cases hE
    refine hK _ ?_; clear hK hp K pan; refine awp_norm [1, 27, 28, 29, 54] rfl rfl ?_
    refine awp_cond2 rfl (onB_intro (fun h8 => ?_) (fun h8 => ?_))
    · simp only [h5, h6, h7, h8, Bool.true_or, Bool.or_true, Bool.or_self] at hE
      cases hE
    refine awp_skip ?_; refine rgn fun pan K hp hK => ?_; refine hK _ ?_; clear hK hp K pan
    simp only [h5, h6, h7, h8, Bool.false_or, Bool.or_self] at hE
    exact ⟨_, Nat.lt_succ_self _, _, sub_pick (L := [0]) (slots := [1, 27, 28, 29]) rfl rfl rfl rfl rfl, d1 ++ [⟨fr, tt, kind, name, args, tests⟩], e1b, rfl, by simp, hE, by rw [List.length_append, wrapId (by omega) (by omega)]; rfl⟩
  have h4' := of_decide_eq_false h4
  rw [hll1] at h4'
  obtain rfl : e1 = [] := List.eq_nil_of_length_eq_zero (by omega)
  simp only [badE] at hE
  refine awp_exit ?_
  refine gw_norm [1] rfl rfl ?_
  refine gw_seq_awp ?_
  refine awp_seq ?_; refine rgn fun pan K hp hK => ?_; refine hK _ ?_; clear hK hp K pan; refine awp_norm [1, 58, 59, 60] rfl rfl ?_; refine awp_block ?_
  refine awp_loop (fun k Y => ∃ (d2 e2 : List Int) , k = e2.length ∧ heads = d2 ++ e2 ∧ badH points e2 = false ∧ Y = ⟨[(1, .box 0 0), (58, .d (.sl 1 (nums heads))), (59, .d (num (nums heads).length)), (60, .d (num d2.length))], [.box 69 [.d (.sl 1 (strs vars)), .d (.sl 2 (ars arrays)), .d (num points), .d (.sl 6 (eds edges)), .d (.sl 1 (nums heads))]]⟩) (heads.length) (⟨[], heads, rfl, rfl, hH, rfl⟩) ?_
  clear hH
  rintro k Y ⟨d2, e2, rfl, hl2, hH, rfl⟩
  have hll2 : (nums heads).length = d2.length + e2.length := by rw [nums_len, hl2, List.length_append]
  have hdl2 : d2.length + e2.length ≤ 1073741824 := by rw [hl2, List.length_append] at hb2'; exact hb2'
  refine awp_seq ?_; refine rgn fun pan K hp hK => ?_; refine hK _ ?_; clear hK hp K pan; refine awp_norm [1, 58, 59, 60, 61] rfl rfl ?_; refine awp_seq ?_
  refine awp_cond2 rfl (onB_intro (fun h5 => ?_) (fun h5 => ?_))
  · have h5' := of_decide_eq_true h5
    rw [hll2] at h5'
    cases e2 with
    | nil => simp only [List.length_nil] at h5'; omega
    | cons x e2b =>
    subst hl2
    simp only [List.length_cons] at hdl2
    simp only [badH] at hH
    refine awp_skip ?_; refine awp_seq ?_; refine awp_block ?_; refine awp_seq ?_; refine rgn fun pan K hp hK => ?_
    refine And.intro (by omega) (Exists.intro _ (And.intro (nums_at rfl) ?_))
    refine hK _ ?_; clear hK hp K pan; refine awp_norm [1, 7, 58, 59, 60] rfl rfl ?_; refine awp_seq ?_; refine rgn fun pan K hp hK => ?_
    refine onB_intro (fun h6 => ?_) (fun h6 => ?_)
    · simp only [h6, Bool.true_or] at hH
      cases hH
    refine hK _ ?_; clear hK hp K pan; refine awp_norm [1, 58, 59, 60, 71] rfl rfl ?_
    refine awp_cond2 rfl (onB_intro (fun h7 => ?_) (fun h7 => ?_))
    · simp only [h6, h7, Bool.true_or, Bool.or_true] at hH
      cases hH
    refine awp_skip ?_; refine rgn fun pan K hp hK => ?_; refine hK _ ?_; clear hK hp K pan
    simp only [h6, h7, Bool.false_or, Bool.or_self] at hH
    exact ⟨_, Nat.lt_succ_self _, _, sub_pick (L := [0]) (slots := [1, 58, 59, 60]) rfl rfl rfl rfl rfl, d2 ++ [x], e2b, rfl, by simp, hH, by rw [List.length_append, wrapId (by omega) (by omega)]; rfl⟩
  have h5' := of_decide_eq_false h5
  rw [hll2] at h5'
  obtain rfl : e2 = [] := List.eq_nil_of_length_eq_zero (by omega)
  simp only [badH] at hH
  refine awp_exit ?_
  refine gw_norm [1] rfl rfl ?_
  refine gw_seq_awp ?_
  refine rgn fun pan K hp hK => ?_; refine hK _ ?_; clear hK hp K pan
  refine gw_norm [1, 8] rfl rfl ?_
  refine gw_seq_awp ?_
  refine rgn fun pan K hp hK => ?_
  refine And.intro rfl (Exists.intro n (And.intro hpt (And.intro (by show 1 * n ≤ 281474976710656; omega) (And.intro (by simp only [maxLen]; omega) ?_))))
  refine hK _ ?_; clear hK hp K pan
  refine gw_sub (sub_vec 2 (ty := 4) (xs := bvs (List.replicate n false)) (congrArg (fun c => some (Row.box 4 c)) (bpv_rep n))) ?_
  refine gw_norm [1, 8, 9] rfl rfl ?_
  refine gw_seq_awp ?_
  refine rgn fun pan K hp hK => ?_; refine hK _ ?_; clear hK hp K pan
  refine gw_norm [1, 8, 9, 10] rfl rfl ?_
  refine gw_seq_awp ?_
  refine rgn fun pan K hp hK => ?_; refine hK _ ?_; clear hK hp K pan
  refine gw_norm [1, 8, 10] rfl rfl ?_
  refine gw_sub (sub_accCell (id := 1) (off := 0) 3 1 rfl rfl rfl (Nat.zero_le _)) ?_
  refine gw_norm [1, 8, 10] rfl rfl ?_
  refine gw_seq_awp ?_
  refine awp_seq ?_; refine rgn fun pan K hp hK => ?_; refine hK _ ?_; clear hK hp K pan; refine awp_norm [8, 10, 80] rfl rfl ?_
  refine awp_cond2 rfl (onB_intro (fun h6 => ?_) (fun h6 => ?_))
  · have := of_decide_eq_true h6; omega
  refine awp_skip ?_
  refine gw_sub (sub_pick (L := [1, 5]) (slots := [8]) rfl rfl rfl rfl rfl) ?_
  refine gw_seq_reverse (xs := []) TT_ok rfl rfl rfl rfl rfl rfl rfl rfl rfl (by decide) (by decide) (fun i => hn i (Nat.zero_le _)) gv_noint ?_
  refine gw_seq_region TT_ok fun pan K hp hK => ?_
  refine hK _ ?_; clear hK hp K pan
  refine gw_norm [2, 3] rfl rfl ?_
  refine gw_ret (end_plain TT_ok hn ?_)
  exact ⟨_, [], _, [.d (.sl 1 (nums [])), .d (.s .nilIface)], rfl, rfl, rfl, rfl, rfl, PWs.refl _, rfl⟩
end
end Go.Abs
end
