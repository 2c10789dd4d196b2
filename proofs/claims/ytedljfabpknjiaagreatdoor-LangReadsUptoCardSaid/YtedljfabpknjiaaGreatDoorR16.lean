/- Texts of this proof, joined: AbsNJ, AbsNC, AbsNK, AbsNL, AbsNN. -/
import Derived.Test.YtedljfabpknjiaaGreatDoorR15
import Derived.Laws.StructEq
import Derived.Test.YtedljfabpknjiaaGreatDoorR14
import Derived.Test.YtedljfabpknjiaaGreatDoorR10
import Derived.Test.YtedljfabpknjiaaGreatDoorR11
import Derived.Test.YtedljfabpknjiaaGreatDoorR1
import Derived.WalkKit
import Derived.ProofKit
import Derived.OpenShut
import Derived.Deep.DeepWitnessRowRef
import Derived.WideShapes
section
namespace Go.Abs
open Go Go.Proofs Go.Abs.PrintLast
def lin (T : Tab) (G : Glob) (N : Nat) (ops : Array Oper) : List (Bool × Nat) → (St → Prop) → St → Prop
  | [], k, X => k X
  | (true, i) :: r, k, X => takeStep T G N ops (some fun _ => true) i (lin T G N ops r k) X
  | (false, i) :: r, k, X => takeStep T G N ops none i (lin T G N ops r k) X
def linOk (ops : Array Oper) (j : Nat) : Array Bool → List (Bool × Nat) → Bool
  | listed, [] => (Region.ready .any ops listed == [j]) && (Region.ready .any ops (listed.setIfInBounds j true) == [])
  | listed, (true, i) :: r => takeB ops listed i && PrintLast.Region.closedB .any ops listed && PrintLast.Region.lastB .any ops listed [] i && linOk ops j (listed.setIfInBounds i true) r
  | listed, (false, i) :: r => takeB ops listed i && linOk ops j (listed.setIfInBounds i true) r
def linEnd (P : Program) (G : Glob) (N : Nat) (ops : Array Oper) (j : Nat) (K : St → Prop) (X : St) : Prop := ∃ o p, nth ops.toList j = some o ∧ dstOk N o.dst = true ∧ guarded ops o X (fun X1 => X1 = X) (fun _ => False) ∧ (∀ D H lim a w, Rep D G N H lim X a w → Does P none a w H lim o p) ∧ K (setE o.dst p X)
section
variable {P : Program} {T : Tab} {G : Glob} {D : List Deferred} {N B : Nat} {H H00 : Nat → Option Value} {lim lim00 : Nat → Nat} {w w00 : World} {ops : Array Oper} {Q : AExit → St → Prop}
theorem lin_sound (hT : TabOk P T) (hs : Region.noSelect ops = true) (hlk : Lk B H00 lim00 w00 H lim w) (j : Nat) : ∀ (l : List (Bool × Nat)) (fuel : Nat) (listed : Array Bool) (X : St) (a : Act), l.length + 1 ≤ fuel → Rep D G N H lim X a w → linOk ops j listed l = true → lin T G N ops l (linEnd P G N ops j (fun X => Q .normal X)) X →
    wpAnyLast P .any ops (Post D G N B Q H00 lim00 w00) (Agr (some fun _ => true) H lim w) [] fuel listed a w
  | [], fuel, listed, X, a, hf, hR, ho, h => by
    obtain ⟨n, rfl⟩ : ∃ n, fuel = n + 1 := ⟨fuel - 1, by omega⟩
    simp only [linOk, Bool.and_eq_true, beq_iff_eq] at ho
    obtain ⟨o, p, h1, h2, h3, h4, h5⟩ := h
    rw [nth_ops] at h1
    refine wpAnyLast_all ho.1 (by simp) fun i hi => ?_
    rw [List.mem_singleton.1 hi]
    unfold wpOp
    rw [h1]
    rcases guarded_sound hR h3 with ⟨hw, X1, hR1, _, rfl⟩ | ⟨_, _, _, _, q⟩
    · simp only [hw, if_true]
      obtain ⟨v, e1, e2⟩ := h4 D H lim a w hR1
      left
      unfold Oper.wp
      rw [e1 w trivial]
      exact ⟨fun _ q => q, wpAnyLast_done ho.2 ⟨_, H, lim, rep_put hR1 h2 e2, hlk, h5⟩ n⟩
    exact q.elim
  | (false, i) :: r, fuel, listed, X, a, hf, hR, ho, h => by
    obtain ⟨n, rfl⟩ : ∃ n, fuel = n + 1 := ⟨fuel - 1, by omega⟩
    simp only [linOk, takeB, Bool.and_eq_true] at ho
    simp only [lin] at h
    obtain ⟨o, v, X', h1, h2, h3, h4⟩ := take_sound hT hR h
    simp only [List.length_cons] at hf
    have hrec := lin_sound hT hs hlk j r n (listed.setIfInBounds i true) X' _ (by omega) h3 ho.2 h4
    exact wpAnyLast_any h1 (Region.noSelect_spec hs) (fun c a w q => post_put q) n listed a w (Region.free_spec h1 ho.1.2) (by simpa using ho.1.1) (h2.imp (fun ⟨q1, q2⟩ => ⟨q1, fun w1 => q2 w1 trivial⟩) id) hrec
  | (true, i) :: r, fuel, listed, X, a, hf, hR, ho, h => by
    obtain ⟨n, rfl⟩ : ∃ n, fuel = n + 1 := ⟨fuel - 1, by omega⟩
    simp only [linOk, takeB, Bool.and_eq_true] at ho
    obtain ⟨⟨⟨⟨o2, o3⟩, o4⟩, o5⟩, o6⟩ := ho
    simp only [lin] at h
    obtain ⟨o, v, X', h1, h2, h3, h4⟩ := take_sound hT hR h
    simp only [List.length_cons] at hf
    have hrec := lin_sound hT hs hlk j r n (listed.setIfInBounds i true) X' _ (by omega) h3 o6 h4
    exact wpAnyLast_take h1 hs o3 o2 o4 o5 (fun c a w q => post_put q) h2 (Agr.refl _ _ _ _) hrec
theorem awp_draw_lin (hT : TabOk P T) (hm : P.follows .mixedOrders = true) {id : Nat} {X : St} (j : Nat) (l : List (Bool × Nat)) (hp : (Region.noSelect ops && linOk ops j (Array.replicate ops.size false) l && Nat.ble (l.length + 1) ops.size) = true)
    (h : ∀ (K : St → Prop), (∀ X, Q .normal X → K X) → lin T G N ops l (linEnd P G N ops j K) X) : AWp D P G N B (.region id ops true) Q X := by
  intro H lim a w hR
  simp only [Bool.and_eq_true] at hp
  obtain ⟨⟨h1, h2⟩, h3⟩ := hp
  have hw : Rep D G N H lim X a { w with drawn := w.drawn + 1 } := by
    have hF : Fr (fun _ => False) lim w lim { w with drawn := w.drawn + 1 } := ⟨rfl, rfl, rfl, Nat.le_refl _, fun _ _ => ⟨Nat.le_refl _, fun _ _ => rfl⟩, fun _ _ _ => ⟨rfl, rfl⟩⟩
    exact ⟨env_mono hF (fun _ _ q => q) hR.env, ⟨fun id r hr => row_mono hF (fun _ _ q => q) (fun _ _ q => q) (hR.rows.row id r hr), hR.rows.apart, hR.rows.dom⟩, hR.glob.mono hF (fun _ q => q.elim) (fun _ q => .inl q), hR.defers, hR.size⟩
  have hl : Lk B H lim w H lim { w with drawn := w.drawn + 1 } := ⟨⟨rfl, rfl, rfl, Nat.le_refl _, fun _ _ => ⟨Nat.le_refl _, fun _ _ => rfl⟩, fun _ _ _ => ⟨rfl, rfl⟩⟩, fun _ _ _ _ _ => rfl, fun _ q => .inl q⟩
  exact wp_region_last hm (lin_sound hT h1 hl j l ops.size _ X a (Nat.le_of_ble_eq_true h3) hw h2 (h _ fun _ q => q))
end
noncomputable def two99 : Bool := match (Tryz.prog.fieldsOf 99).toList with
  | [f, g] => f.name != "_" && g.name != "_" && f.type == 9 && g.type == 3 && f.offset == 0 && g.offset == 1
  | _ => false
theorem two99_ok : two99 = true := by kernel_rfl
theorem part_at {t : TypeId} {ti : TI} (h : TT t = some ti) (hg : ti.desc.agg = false) (xs : Array Value) (i : Nat) (v : Value) (hv : xs[i]? = some v) (w : World) : (part t xs i).run Tryz.prog w = .ok v w := by
  have h1 := run_isAgg TT_ok h w
  rw [hg] at h1
  simp only [part, Sem.run_bind, h1, Result.andThen, Bool.false_eq_true, if_false, hv, Sem.run_pure]
theorem neq99 (m : ByteArray) (n : Int) (x y : Operand) (xs ys : Array Value) (hx : xs.toList = [.string m, .int .i64 n]) (hy : ys.toList = [.string m, .int .i64 n]) (w : World) :
    (eqGuard .neq 99 x y (.agg xs) (.agg ys)).run Tryz.prog w = .ok () w ∧ (binOp .neq 99 (.agg xs) (.agg ys)).run Tryz.prog w = .ok (.bool false) w := by
  have hm : Tryz.prog.eqGuardType Tryz.prog.depth 99 = false := by kernel_rfl
  have hu : Tryz.prog.underlying 99 = some (.struct (Tryz.prog.fieldsOf 99)) := by kernel_rfl
  have hp : Tryz.prog.stoodInHeld 99 = false := by kernel_rfl
  have h9 : Tryz.prog.underlying 9 = some .string := by kernel_rfl
  have h3 : Tryz.prog.underlying 3 = some (.int .i64) := by kernel_rfl
  have ho := two99_ok
  unfold two99 at ho
  split at ho
  · rename_i f g hf
    simp only [Bool.and_eq_true, bne_iff_ne, beq_iff_eq] at ho
    obtain ⟨⟨⟨⟨⟨o1, o2⟩, o3⟩, o4⟩, o5⟩, o6⟩ := ho
    have x0 : xs[0]? = some (.string m) := by rw [← Array.getElem?_toList, hx]; rfl
    have x1 : xs[1]? = some (.int .i64 n) := by rw [← Array.getElem?_toList, hx]; rfl
    have y0 : ys[0]? = some (.string m) := by rw [← Array.getElem?_toList, hy]; rfl
    have y1 : ys[1]? = some (.int .i64 n) := by rw [← Array.getElem?_toList, hy]; rfl
    have t9 : ∃ ti, TT 9 = some ti ∧ ti.desc.agg = false := ⟨_, rfl, rfl⟩
    have t3 : ∃ ti, TT 3 = some ti ∧ ti.desc.agg = false := ⟨_, rfl, rfl⟩
    obtain ⟨_, t9, g9⟩ := t9
    obtain ⟨_, t3, g3⟩ := t3
    have e : ∀ w, (Op.equalIn 10000 99 (.agg xs) (.agg ys)).run Tryz.prog w = .ok true w := by
      intro w
      rw [run_equalIn_struct w 9999 99 xs ys hu hp, hf]
      simp only [Op.eqFields, o3, o4, o5, o6]
      rw [if_pos o1]
      simp only [Sem.run_bind, part_at t9 g9 xs 0 _ x0, part_at t9 g9 ys 0 _ y0, Result.andThen, run_equalIn_string _ 9998 9 m m h9, beq_self_eq_true, Bool.not_true, Bool.false_eq_true, if_false]
      rw [if_pos o2]
      simp only [Sem.run_bind, part_at t3 g3 xs 1 _ x1, part_at t3 g3 ys 1 _ y1, Result.andThen, run_equalIn_int _ 9998 3 .i64 .i64 n n h3, beq_self_eq_true, Bool.not_true, Bool.false_eq_true, if_false, Sem.run_pure]
    exact ⟨run_eqGuard_agg w .neq 99 x y xs ys hm, by simp only [Result.andThen, run_neq_struct w 99 xs ys, e, Bool.not_true]⟩
  cases ho
theorem ar_V {H : Nat → Option Value} {lim : Nat → Nat} {w : World} {m : ByteArray} {n : Int} {v : Value} (h : V H lim w (.d (.agg [str m, num n])) v) : ∃ xs : Array Value, v = .agg xs ∧ xs.toList = [.string m, .int .i64 n] := by
  simp only [V, VD, VDs, str, num] at h
  obtain ⟨xs, rfl, h⟩ := h
  obtain ⟨_, _, e, rfl, _, _, rfl, rfl, rfl⟩ := h
  exact ⟨⟨xs⟩, rfl, e⟩
theorem does_neq99 {G : Glob} {D : List Deferred} {N : Nat} {H : Nat → Option Value} {lim : Nat → Nat} {X : St} {a : Act} {w : World} (hR : Rep D G N H lim X a w) {m : ByteArray} {n : Int} {o : Oper} {x y : Operand} {yt : TypeId} (ho : o.op = .binOp .neq 99 x y yt) (hx : ev G X x = some (.d (.agg [str m, num n]))) (hy : ev G X y = some (.d (.agg [str m, num n]))) :
    Does Tryz.prog none a w H lim o (.d (.s (.bool false))) := by
  obtain ⟨xs, h1, h2⟩ := ar_V (ev_sound hR hx)
  obtain ⟨ys, h3, h4⟩ := ar_V (ev_sound hR hy)
  refine ⟨.bool false, fun w1 _ => ?_, V_s _⟩
  obtain ⟨e1, e2⟩ := neq99 m n x y xs ys h2 h4 w1
  simp [execOp, ho, h1, h3, e1, e2]
attribute [local irreducible] aCall AWp Sub Spec
theorem sameArrays_spec (G : Glob) (l : List Ar) (hb : l.length ≤ 1073741824) : Spec Tryz.prog G 68 [.d (.sl 2 (ars l)), .d (.sl 2 (ars l))] [] (.ret (.d (.s (.bool true)))) [] := by
  refine spec_of_awp2 TT_ok (N := 26) Tryz.func68 rfl (by rfl) (Nat.le_refl _) rfl ?_
  refine awp_seq ?_; refine rgn fun pan K hp hK => ?_; refine hK _ ?_; clear hK hp K pan; refine awp_norm [0, 1] rfl rfl ?_; refine awp_seq ?_; refine awp_seq ?_; refine rgn fun pan K hp hK => ?_; refine hK _ ?_; clear hK hp K pan; refine awp_norm [0, 1, 10] rfl rfl ?_
  refine awp_cond2 rfl (onB_intro (fun h1 => ?_) (fun h1 => ?_))
  · simp at h1
  refine awp_skip ?_; refine awp_seq ?_; refine awp_seq ?_; refine rgn fun pan K hp hK => ?_; refine hK _ ?_; clear hK hp K pan; refine awp_norm [0, 1, 5] rfl rfl ?_; refine awp_block ?_
  refine awp_loop (fun k Y => ∃ (d1 e1 : List Ar), k = e1.length ∧ l = d1 ++ e1 ∧ Y = ⟨[(0, .d (.sl 2 (ars l))), (1, .d (.sl 2 (ars l))), (5, .d (num d1.length))], []⟩) (l.length) (⟨[], l, rfl, rfl, rfl⟩) ?_
  rintro k Y ⟨d1, e1, rfl, hl1, rfl⟩
  have hll1 : (ars l).length = d1.length + e1.length := by rw [ars_length, hl1, List.length_append]
  have hdl1 : d1.length + e1.length ≤ 1073741824 := by rw [hl1, List.length_append] at hb; exact hb
  refine awp_seq ?_; refine awp_seq ?_; refine rgn fun pan K hp hK => ?_; refine hK _ ?_; clear hK hp K pan; refine awp_norm [0, 1, 5, 14] rfl rfl ?_
  refine awp_cond2 rfl (onB_intro (fun h2 => ?_) (fun h2 => ?_))
  · have h2' := of_decide_eq_true h2
    rw [hll1] at h2'
    cases e1 with
    | nil => simp only [List.length_nil] at h2'; omega
    | cons x e1b =>
    subst hl1
    simp only [List.length_cons] at hdl1
    refine awp_skip ?_; refine awp_seq ?_; refine awp_block ?_; refine awp_seq ?_
    refine (awp_draw_lin TT_ok mixed 8 [(false, 0), (false, 1), (false, 2), (true, 3), (false, 4), (false, 5), (false, 6), (true, 7)] (by kernel_rfl) fun K hK => ?_)
    refine And.intro (by omega) (Exists.intro _ (And.intro (ars_at rfl) ?_))
    refine And.intro (by omega) (Exists.intro _ (And.intro (ars_at rfl) ?_))
    refine ⟨_, .d (.s (.bool false)), rfl, rfl, rfl, fun D H lim a w hR => does_neq99 (m := x.name) (n := x.size) hR rfl rfl rfl, ?_⟩
    refine hK _ ?_
    clear hK K
    refine awp_norm [0, 1, 5, 25] rfl rfl ?_
    refine awp_cond2 rfl (onB_intro (fun h3 => ?_) (fun h3 => ?_))
    · simp at h3
    refine awp_skip ?_; refine rgn fun pan K hp hK => ?_; refine hK _ ?_; clear hK hp K pan
    exact ⟨_, Nat.lt_succ_self _, _, sub_norm (slots := [0, 1, 5]) rfl rfl, d1 ++ [x], e1b, rfl, by simp, by rw [List.length_append, wrapId (by omega) (by omega)]; rfl⟩
  have h2' := of_decide_eq_false h2
  rw [hll1] at h2'
  obtain rfl : e1 = [] := List.eq_nil_of_length_eq_zero (by omega)
  rw [List.append_nil] at hl1
  subst hl1
  refine awp_exit ?_
  refine awp_norm [] rfl rfl ?_; refine awp_seq ?_; refine rgn fun pan K hp hK => ?_; refine hK _ ?_; clear hK hp K pan; refine awp_norm [4] rfl rfl ?_; refine awp_ret ?_
  exact ⟨_, [], _, [.d (.s (.bool true))], rfl, rfl, rfl, rfl, rfl, PWs.refl _, rfl⟩
end Go.Abs
end
section
namespace Go.Abs
open Go Go.Proofs
theorem wtV_snoc : ∀ (l : List ByteArray) (v : ByteArray), wtV (l ++ [v]) = wtV l + v.size + 60
  | [], v => by simp only [List.nil_append, wtV] <;> omega
  | x :: l, v => by simp only [List.cons_append, wtV, wtV_snoc l v] <;> omega
theorem wtA_snoc : ∀ (l : List Ar) (a : Ar), wtA (l ++ [a]) = wtA l + a.name.size + 90
  | [], v => by simp only [List.nil_append, wtA] <;> omega
  | x :: l, v => by simp only [List.cons_append, wtA, wtA_snoc l v] <;> omega
theorem okA_snoc : ∀ (l : List Ar) (a : Ar), okA (l ++ [a]) = (okA l && chkN a.size)
  | [], v => by simp [okA]
  | x :: l, v => by simp only [List.cons_append, okA, okA_snoc l v, Bool.and_assoc]
theorem wtP_snoc : ∀ (l : List Pc) (p : Pc), wtP (l ++ [p]) = wtP l + (p.name.size + 300 + wtV p.params + wtB p.body + wtE p.ret)
  | [], v => by simp only [List.nil_append, wtP] <;> omega
  | x :: l, v => by simp only [List.cons_append, wtP, wtP_snoc l v] <;> omega
theorem okP_snoc (n f : Nat) : ∀ (l : List Pc) (p : Pc), okP' n f (l ++ [p]) = (okP' n f l && ((okB n p.body && decide (fuB p.body + 1 ≤ f)) && (nmE p.ret && decide (fuE p.ret ≤ n))))
  | [], v => by simp [okP']
  | x :: l, v => by simp only [List.cons_append, okP', okP_snoc n f l v, Bool.and_assoc]
theorem varOkP (s : ByteArray) : ∀ (n : Nat) (acc : List ByteArray) (p p0 : PS s), 8 * rst s p + 1 ≤ n → rst s p ≤ rst s p0 ∧ wtV acc + 200 * rst s p ≤ 200 * rst s p0 + 1 → RG (varsL s n acc p) (fun l q => rst s q ≤ rst s p0 ∧ wtV l + 200 * rst s q ≤ 200 * rst s p0 + 1)
  | 0, acc, p, p0, hn, _ => absurd hn (by omega)
  | n + 1, acc, p, p0, hn, hr => by
    simp only [varsL]
    have hx := rst_nx p
    have z : (⟨#[118, 97, 114]⟩ : ByteArray).size = 3 := rfl
    cases h1 : eqW p.w ⟨#[118, 97, 114]⟩ with
    | false => exact hr
    | true =>
      have hs := eqW_size h1
      refine (name_rg (nx s p)).bind fun m q1 hm => ?_
      refine (take_rg _ q1).bind fun _ q2 h2 => ?_
      refine varOkP s n _ q2 p0 (by omega) ⟨by omega, ?_⟩
      rw [wtV_snoc]; omega
theorem arrOkP (s : ByteArray) : ∀ (n : Nat) (acc : List Ar) (p p0 : PS s), 8 * rst s p + 1 ≤ n → rst s p ≤ rst s p0 ∧ wtA acc + 200 * rst s p ≤ 200 * rst s p0 + 1 ∧ okA acc = true → RG (arrsL s n acc p) (fun l q => rst s q ≤ rst s p0 ∧ wtA l + 200 * rst s q ≤ 200 * rst s p0 + 1 ∧ okA l = true)
  | 0, acc, p, p0, hn, _ => absurd hn (by omega)
  | n + 1, acc, p, p0, hn, hr => by
    simp only [arrsL]
    have hx := rst_nx p
    have z : (⟨#[97, 114, 114, 97, 121]⟩ : ByteArray).size = 5 := rfl
    cases h1 : eqW p.w ⟨#[97, 114, 114, 97, 121]⟩ with
    | false => exact hr
    | true =>
      have hs := eqW_size h1
      refine (name_rg (nx s p)).bind fun m q1 hm => ?_
      refine (take_rg _ q1).bind fun _ q2 h2 => ?_
      refine (number_rg q2).bind fun k q3 hk => ?_
      refine (take_rg _ q3).bind fun _ q4 h4 => ?_
      refine (take_rg _ q4).bind fun _ q5 h5 => ?_
      refine arrOkP s n _ q5 p0 (by omega) ⟨by omega, ?_, ?_⟩
      · rw [wtA_snoc]; simp only; omega
      rw [okA_snoc, hr.2.2, hk.2]; rfl
theorem prmOkP (s : ByteArray) : ∀ (n : Nat) (acc : List ByteArray) (p p0 : PS s), 8 * rst s p + 1 ≤ n → rst s p ≤ rst s p0 ∧ wtV acc + 200 * rst s p ≤ 200 * rst s p0 + 1 → RG (prmL s n acc p) (fun l q => rst s q ≤ rst s p0 ∧ wtV l + 200 * rst s q ≤ 200 * rst s p0 + 1)
  | 0, acc, p, p0, hn, _ => absurd hn (by omega)
  | n + 1, acc, p, p0, hn, hr => by
    simp only [prmL]
    have hx := rst_nx p
    cases h1 : (!eqW p.w ⟨#[41]⟩) with
    | false => exact ⟨by omega, by omega⟩
    | true =>
      cases decide ((acc.length : Int) > 0) with
      | true =>
        refine (take_rg _ p).bind fun _ q1 h2 => ?_
        refine (name_rg q1).bind fun m q2 hm => ?_
        refine prmOkP s n _ q2 p0 (by omega) ⟨by omega, ?_⟩
        rw [wtV_snoc]; omega
      | false =>
        refine (name_rg p).bind fun m q2 hm => ?_
        refine prmOkP s n _ q2 p0 (by omega) ⟨by omega, ?_⟩
        rw [wtV_snoc]; omega
def R3G {s : ByteArray} (r : R3 s) (Q : List Sm → Ex → PS s → Prop) : Prop := match r with
  | .ok l e q => Q l e q
  | .bad _ _ _ => True
  | .out => False
theorem blqG (N : Nat) (s : ByteArray) (hs : s.size ≤ 4000) (hN : 2 * s.size ≤ N) (n : Nat) (p : PS s) (hn : 8 * rst s p + 1 ≤ n) : R3G (blockQ s n 1 p) (fun l e q => rst s q + 9 ≤ rst s p ∧ wtB l + wtE e + 200 * rst s q ≤ 200 * rst s p ∧ (okB N l = true ∧ fuB l ≤ 4 * rst s p + 2) ∧ (nmE e = true ∧ fuE e ≤ 2 * rst s p) ∧ dpB l ≤ 12) := by
  obtain ⟨hS, _, _⟩ := smG N s hs hN n
  obtain ⟨_, _, _, hE, _⟩ := exG s n
  have y1 : (⟨#[123]⟩ : ByteArray).size = 1 := rfl
  have y2 : (⟨#[125]⟩ : ByteArray).size = 1 := rfl
  have y3 : (⟨#[114, 101, 116, 117, 114, 110]⟩ : ByteArray).size = 6 := rfl
  have y4 : (⟨#[59]⟩ : ByteArray).size = 1 := rfl
  unfold blockQ
  have t1 := take_rg ⟨#[123]⟩ p
  revert t1
  cases takeF s ⟨#[123]⟩ p with
  | bad q c => intro _; trivial
  | out => exact fun h => h.elim
  | ok a q1 =>
    intro t1
    simp only [RG] at t1
    simp only
    have t2 := hS 1 [] q1 q1 (by omega) (by omega) (by omega) ⟨Nat.le_refl _, by simp only [fuB] <;> omega, by simp only [wtB] <;> omega, rfl, by simp only [dpB] <;> omega⟩
    revert t2
    cases stmtsL s n 1 [] q1 with
    | bad q c => intro _; trivial
    | out => exact fun h => h.elim
    | ok l q2 =>
      intro t2
      obtain ⟨b1, b2, b3, b4, b5⟩ := t2
      simp only [retF]
      have t3 := take_rg ⟨#[114, 101, 116, 117, 114, 110]⟩ q2
      revert t3
      cases takeF s ⟨#[114, 101, 116, 117, 114, 110]⟩ q2 with
      | bad q c => intro _; trivial
      | out => exact fun h => h.elim
      | ok a q3 =>
        intro t3
        simp only [RG] at t3
        simp only
        have t4 := hE 1 q3 (by omega)
        revert t4
        cases termF s n 1 q3 with
        | bad q c => intro _; trivial
        | out => exact fun h => h.elim
        | ok e q4 =>
          intro t4
          obtain ⟨e1, e2, e3, e4⟩ := t4
          simp only
          have t5 := take_rg ⟨#[59]⟩ q4
          revert t5
          cases takeF s ⟨#[59]⟩ q4 with
          | bad q c => intro _; trivial
          | out => exact fun h => h.elim
          | ok a q5 =>
            intro t5
            simp only [RG] at t5
            simp only
            have t6 := take_rg ⟨#[125]⟩ q5
            revert t6
            cases takeF s ⟨#[125]⟩ q5 with
            | bad q c => intro _; trivial
            | out => exact fun h => h.elim
            | ok a q6 =>
              intro t6
              simp only [RG] at t6
              exact ⟨by omega, by omega, ⟨b4, by omega⟩, ⟨e4, by omega⟩, by omega⟩
def dpP (l : List Pc) : Prop := ∀ f, f ∈ l → dpB f.body ≤ 12
theorem prcG (N : Nat) (s : ByteArray) (hs : s.size ≤ 4000) (hN : 2 * s.size ≤ N) : ∀ (n : Nat) (acc : List Pc) (p p0 : PS s), 8 * rst s p + 1 ≤ n → rst s p ≤ rst s p0 ∧ wtP acc + 200 * rst s p ≤ 200 * rst s p0 + 1 ∧ okP' N 16003 acc = true ∧ dpP acc → RG (procsL s n acc p) (fun l q => rst s q ≤ rst s p0 ∧ wtP l + 200 * rst s q ≤ 200 * rst s p0 + 1 ∧ okP' N 16003 l = true ∧ dpP l)
  | 0, acc, p, p0, hn, _ => absurd hn (by omega)
  | n + 1, acc, p, p0, hn, hr => by
    obtain ⟨r1, r2, r3, r4⟩ := hr
    simp only [procsL]
    have hx := rst_nx p
    have hpz : rst s p ≤ s.size := by unfold rst; omega
    have hp : rst s p ≤ 4000 := by omega
    have z : (⟨#[112, 114, 111, 99]⟩ : ByteArray).size = 4 := rfl
    have z2 : (⟨#[40]⟩ : ByteArray).size = 1 := rfl
    cases h1 : eqW p.w ⟨#[112, 114, 111, 99]⟩ with
    | false => exact ⟨r1, r2, r3, r4⟩
    | true =>
      have hs1 := eqW_size h1
      refine (name_rg (nx s p)).bind fun m q1 hm => ?_
      refine (take_rg _ q1).bind fun _ q2 h2 => ?_
      refine (prmOkP s n [] q2 q2 (by omega) ⟨Nat.le_refl _, by simp only [wtV] <;> omega⟩).bind fun l q3 h3 => ?_
      have hb := blqG N s hs hN n q3 (by omega)
      revert hb
      cases blockQ s n 1 q3 with
      | bad oe q c => intro _; trivial
      | out => exact fun h => h.elim
      | ok b e q4 =>
        intro hb
        obtain ⟨b1, b2, ⟨b3, b4⟩, ⟨b5, b6⟩, b7⟩ := hb
        refine prcG N s hs hN n _ q4 p0 (by omega) ⟨by omega, ?_, ?_, ?_⟩
        · rw [wtP_snoc]; simp only; omega
        · rw [okP_snoc, r3]
          simp only [b3, b5]
          rw [decide_eq_true (by omega), decide_eq_true (by omega)]
          rfl
        intro f hf
        rcases List.mem_append.1 hf with hf | hf
        · exact r4 f hf
        rw [List.mem_singleton.1 hf]; exact b7
/-- What is read is no greater than so. -/
structure PgG (N : Nat) (g : Pg) : Prop where
  wt : wtPg g ≤ 1000000
  ok : okPg N 16003 g = true
  main : dpB g.main ≤ 12
  procs : dpP g.procs
theorem progG_ok (N : Nat) (s : ByteArray) (hs : s.size ≤ 4000) (hN : 2 * s.size ≤ N) (n : Nat) (hn : 8 * s.size + 20 ≤ n) (p : PS s) : RG (progF s n p) (fun g _ => PgG N g) := by
  have hp : rst s p ≤ s.size := by unfold rst; omega
  obtain ⟨_, hB, _⟩ := smG N s hs hN n
  unfold progF
  refine (varOkP s n [] p p (by omega) ⟨Nat.le_refl _, by simp only [wtV] <;> omega⟩).bind fun v q1 hv => ?_
  refine (arrOkP s n [] q1 q1 (by omega) ⟨Nat.le_refl _, by simp only [wtA] <;> omega, rfl⟩).bind fun a q2 ha => ?_
  refine (prcG N s hs hN n [] q2 q2 (by omega) ⟨Nat.le_refl _, by simp only [wtP] <;> omega, rfl, fun f hf => by cases hf⟩).bind fun f q3 hf => ?_
  refine (take_rg _ q3).bind fun _ q4 h4 => ?_
  refine (hB 1 q4 (by omega) (by omega) (by omega)).bind fun b q5 hb => ?_
  refine (take_rg _ q5).bind fun _ q6 h6 => ?_
  obtain ⟨⟨b1, b2, b3, b4, b5⟩, b6, b7, b8⟩ := hb
  refine ⟨?_, ?_, ?_, hf.2.2.2⟩
  · simp only [wtPg]; omega
  · simp only [okPg, ha.2.2, hf.2.2.1, b4]
    rw [decide_eq_true (by omega)]
    rfl
  show dpB b ≤ 12
  omega
end Go.Abs
end
section
namespace Go.Abs
open Go Go.Proofs
attribute [local irreducible] aCall AWp Sub Spec
section
variable {t : Nat → TypeId} {u : Nat → Value}
theorem reads_mid (s : ByteArray) (hz : 2000 < s.size) (hy : s.size ≤ 4000) : Spec Tryz.prog (GV t u) 3 [.d (str s)] [] (.ret (.d (.s (.bool true)))) [] := by
  refine spec_of_awp2 TT_ok (N := 50) Tryz.func3 rfl (by rfl) (Nat.le_refl _) rfl ?_
  refine awp_seq ?_; refine rgn fun pan K hp hK => ?_; refine hK _ ?_; clear hK hp K pan; refine awp_norm [0] rfl rfl ?_; refine awp_seq ?_; refine rgn fun pan K hp hK => ?_; show aCall _ _ _ _ _ _ _
  refine aCall_ret (L := []) rfl rfl rfl (one_true t u) rfl rfl rfl rfl ?_
  refine hK _ ?_; clear hK hp K pan; refine awp_norm [0, 3] rfl rfl ?_; refine awp_seq ?_; refine awp_seq ?_; refine rgn fun pan K hp hK => ?_
  refine onB_intro (fun h1 => ?_) (fun h1 => ?_)
  · refine hK _ ?_; clear hK hp K pan; refine awp_norm [0, 3, 20] rfl rfl ?_
    refine awp_cond2 rfl (onB_intro (fun h2 => ?_) (fun h2 => ?_))
    · refine awp_seq ?_; refine rgn fun pan K hp hK => ?_; refine hK _ ?_; clear hK hp K pan; refine awp_norm [2] rfl rfl ?_; refine awp_ret ?_
      exact ⟨_, [], _, [.d (.s (.bool true))], rfl, rfl, rfl, rfl, rfl, by (first | exact PWs.refl _ | (simp; exact PWs.refl _)), rfl⟩
    have q1 := of_decide_eq_false h2
    omega
  have q1 := of_decide_eq_false h1
  omega
theorem reads_long (hE : ErrsOk t u) (s : ByteArray) (hy : 4000 < s.size) : Spec Tryz.prog (GV t u) 3 [.d (str s)] [] (.ret (.d (.s (.bool true)))) [] := by
  have sr := read_long t u s (decide_eq_true (by omega))
  have sq := readQ_long (G := GV t u) s hy
  have sf := faulted_err (t := t) (u := u) 0 2 (-1) (code_err hE 0 (by decide))
  have sn := noProg_spec (GV t u)
  refine spec_of_awp2 TT_ok (N := 50) Tryz.func3 rfl (by rfl) (Nat.le_refl _) rfl ?_
  refine awp_seq ?_; refine rgn fun pan K hp hK => ?_; refine hK _ ?_; clear hK hp K pan; refine awp_norm [0] rfl rfl ?_; refine awp_seq ?_; refine rgn fun pan K hp hK => ?_; show aCall _ _ _ _ _ _ _
  refine aCall_ret (L := []) rfl rfl rfl (one_true t u) rfl rfl rfl rfl ?_
  refine hK _ ?_; clear hK hp K pan; refine awp_norm [0, 3] rfl rfl ?_; refine awp_seq ?_; refine awp_seq ?_; refine rgn fun pan K hp hK => ?_
  refine onB_intro (fun h1 => ?_) (fun h1 => ?_)
  · refine hK _ ?_; clear hK hp K pan; refine awp_norm [0, 3, 20] rfl rfl ?_
    refine awp_cond2 rfl (onB_intro (fun h2 => ?_) (fun h2 => ?_))
    · have q1 := of_decide_eq_true h2
      omega
    refine awp_skip ?_; refine awp_seq ?_; refine rgn fun pan K hp hK => ?_; show aCall _ _ _ _ _ _ _
    refine aCall_ret (L := []) rfl rfl rfl sr rfl rfl rfl rfl ?_
    refine hK _ ?_; clear hK hp K pan; refine awp_norm [0, 4, 5] rfl rfl ?_; refine awp_seq ?_; refine rgn fun pan K hp hK => ?_; show aCall _ _ _ _ _ _ _
    refine aCall_ret (L := []) rfl rfl rfl sq rfl rfl rfl rfl ?_
    refine hK _ ?_; clear hK hp K pan; refine awp_norm [4, 5, 6, 7] rfl rfl ?_; refine awp_seq ?_; refine awp_seq ?_; refine rgn fun pan K hp hK => ?_; refine hK _ ?_; clear hK hp K pan; refine awp_norm [4, 5, 6, 7, 34] rfl rfl ?_; refine awp_cond rfl ?_; refine awp_seq ?_; refine rgn fun pan K hp hK => ?_; show aCall _ _ _ _ _ _ _
    refine aCall_ret (L := []) rfl rfl rfl sf rfl rfl rfl rfl ?_
    show aCall _ _ _ _ _ _ _
    refine aCall_ret (L := []) rfl rfl rfl sn rfl rfl rfl rfl ?_
    refine hK _ ?_; clear hK hp K pan; refine awp_norm [2] rfl rfl ?_; refine awp_ret ?_
    exact ⟨_, [], _, [.d (.s (.bool true))], rfl, rfl, rfl, rfl, rfl, by (first | exact PWs.refl _ | (simp; exact PWs.refl _)), rfl⟩
  refine hK _ ?_; clear hK hp K pan; refine awp_norm [0, 3, 20] rfl rfl ?_; refine awp_cond rfl ?_; refine awp_skip ?_; refine awp_seq ?_; refine rgn fun pan K hp hK => ?_; show aCall _ _ _ _ _ _ _
  refine aCall_ret (L := []) rfl rfl rfl sr rfl rfl rfl rfl ?_
  refine hK _ ?_; clear hK hp K pan; refine awp_norm [0, 4, 5] rfl rfl ?_; refine awp_seq ?_; refine rgn fun pan K hp hK => ?_; show aCall _ _ _ _ _ _ _
  refine aCall_ret (L := []) rfl rfl rfl sq rfl rfl rfl rfl ?_
  refine hK _ ?_; clear hK hp K pan; refine awp_norm [4, 5, 6, 7] rfl rfl ?_; refine awp_seq ?_; refine awp_seq ?_; refine rgn fun pan K hp hK => ?_; refine hK _ ?_; clear hK hp K pan; refine awp_norm [4, 5, 6, 7, 34] rfl rfl ?_; refine awp_cond rfl ?_; refine awp_seq ?_; refine rgn fun pan K hp hK => ?_; show aCall _ _ _ _ _ _ _
  refine aCall_ret (L := []) rfl rfl rfl sf rfl rfl rfl rfl ?_
  show aCall _ _ _ _ _ _ _
  refine aCall_ret (L := []) rfl rfl rfl sn rfl rfl rfl rfl ?_
  refine hK _ ?_; clear hK hp K pan; refine awp_norm [2] rfl rfl ?_; refine awp_ret ?_
  exact ⟨_, [], _, [.d (.s (.bool true))], rfl, rfl, rfl, rfl, rfl, by (first | exact PWs.refl _ | (simp; exact PWs.refl _)), rfl⟩
theorem reads_bad (s : ByteArray) (hz : s.size ≤ 2000) (k : Nat) (x : Int) (i : Int) (hx : decide (x > 0) = true) (sr : Spec Tryz.prog (GV t u) 16 [.d (str s)] [] (.ret (.tup [encP zPg, .ifc 128 (.box 0 0)])) [flt i (t k) (u k)]) (sq : Spec Tryz.prog (GV t u) 17 [.d (str s)] [] (.ret (.tup [encP zPg, .d (.agg [num x, num i])])) []) (sf : Spec Tryz.prog (GV t u) 18 [.ifc 128 (.box 0 0), .d (.agg [num x, num i])] [flt i (t k) (u k)] (.ret (.d (.s (.bool true)))) [flt i (t k) (u k)]) : Spec Tryz.prog (GV t u) 3 [.d (str s)] [] (.ret (.d (.s (.bool true)))) [] := by
  have sn := noProg_spec (GV t u)
  refine spec_of_awp2 TT_ok (N := 50) Tryz.func3 rfl (by rfl) (Nat.le_refl _) rfl ?_
  refine awp_seq ?_; refine rgn fun pan K hp hK => ?_; refine hK _ ?_; clear hK hp K pan; refine awp_norm [0] rfl rfl ?_; refine awp_seq ?_; refine rgn fun pan K hp hK => ?_; show aCall _ _ _ _ _ _ _
  refine aCall_ret (L := []) rfl rfl rfl (one_true t u) rfl rfl rfl rfl ?_
  refine hK _ ?_; clear hK hp K pan; refine awp_norm [0, 3] rfl rfl ?_; refine awp_seq ?_; refine awp_seq ?_; refine rgn fun pan K hp hK => ?_
  refine onB_intro (fun h1 => ?_) (fun h1 => ?_)
  · have q1 := of_decide_eq_true h1
    omega
  refine hK _ ?_; clear hK hp K pan; refine awp_norm [0, 3, 20] rfl rfl ?_; refine awp_cond rfl ?_; refine awp_skip ?_; refine awp_seq ?_; refine rgn fun pan K hp hK => ?_; show aCall _ _ _ _ _ _ _
  refine aCall_ret (L := []) rfl rfl rfl sr rfl rfl rfl rfl ?_
  refine hK _ ?_; clear hK hp K pan; refine awp_norm [0, 4, 5] rfl rfl ?_; refine awp_seq ?_; refine rgn fun pan K hp hK => ?_; show aCall _ _ _ _ _ _ _
  refine aCall_ret (L := []) rfl rfl rfl sq rfl rfl rfl rfl ?_
  refine hK _ ?_; clear hK hp K pan; refine awp_norm [4, 5, 6, 7] rfl rfl ?_; refine awp_seq ?_; refine awp_seq ?_; refine rgn fun pan K hp hK => ?_; refine hK _ ?_; clear hK hp K pan; refine awp_norm [4, 5, 6, 7, 34] rfl rfl ?_
  refine awp_cond2 rfl (onB_intro (fun h2 => ?_) (fun h2 => ?_))
  · refine awp_seq ?_; refine rgn fun pan K hp hK => ?_; show aCall _ _ _ _ _ _ _
    refine aCall_ret (L := [0]) rfl rfl rfl sf rfl rfl rfl rfl ?_
    show aCall _ _ _ _ _ _ _
    refine aCall_ret (L := []) rfl rfl rfl sn rfl rfl rfl rfl ?_
    refine hK _ ?_; clear hK hp K pan; refine awp_norm [2] rfl rfl ?_; refine awp_ret ?_
    exact ⟨_, [], _, [.d (.s (.bool true))], rfl, rfl, rfl, rfl, rfl, by (first | exact PWs.refl _ | (simp; exact PWs.refl _)), rfl⟩
  rw [hx] at h2
  cases h2
def p3_8 : Plan := (.take 0 (.take 1 (.take 2 (.load 3 (.load 5 (.one 4 (.one 6 (.take 7 (.take 8 .done)))))))))
theorem reads_ok (s : ByteArray) (hz : s.size ≤ 2000) (g : Pg) (sr : Spec Tryz.prog (GV t u) 16 [.d (str s)] [] (.ret (.tup [encP g, .d (.s .nilIface)])) []) (sq : Spec Tryz.prog (GV t u) 17 [.d (str s)] [] (.ret (.tup [encP g, .d (.agg [num 0, num (-1)])])) []) (sb : Spec Tryz.prog (GV t u) 21 [.d (.agg g.cs)] [] (.ret (.d (.agg g.cs))) []) (ss : Spec Tryz.prog (GV t u) 20 [.d (.agg g.cs), .d (.agg g.cs)] [] (.ret (.d (.s (.bool true)))) []) : Spec Tryz.prog (GV t u) 3 [.d (str s)] [] (.ret (.d (.s (.bool true)))) [] := by
  refine spec_of_awp2 TT_ok (N := 50) Tryz.func3 rfl (by rfl) (Nat.le_refl _) rfl ?_
  refine awp_seq ?_; refine rgn fun pan K hp hK => ?_; refine hK _ ?_; clear hK hp K pan; refine awp_norm [0] rfl rfl ?_; refine awp_seq ?_; refine rgn fun pan K hp hK => ?_; show aCall _ _ _ _ _ _ _
  refine aCall_ret (L := []) rfl rfl rfl (one_true t u) rfl rfl rfl rfl ?_
  refine hK _ ?_; clear hK hp K pan; refine awp_norm [0, 3] rfl rfl ?_; refine awp_seq ?_; refine awp_seq ?_; refine rgn fun pan K hp hK => ?_
  refine onB_intro (fun h1 => ?_) (fun h1 => ?_)
  · have q1 := of_decide_eq_true h1
    omega
  refine hK _ ?_; clear hK hp K pan; refine awp_norm [0, 3, 20] rfl rfl ?_; refine awp_cond rfl ?_; refine awp_skip ?_; refine awp_seq ?_; refine rgn fun pan K hp hK => ?_; show aCall _ _ _ _ _ _ _
  refine aCall_ret (L := []) rfl rfl rfl sr rfl rfl rfl rfl ?_
  refine hK _ ?_; clear hK hp K pan; refine awp_norm [0, 4, 5] rfl rfl ?_; refine awp_seq ?_; refine rgn fun pan K hp hK => ?_; show aCall _ _ _ _ _ _ _
  refine aCall_ret (L := []) rfl rfl rfl sq rfl rfl rfl rfl ?_
  refine hK _ ?_; clear hK hp K pan; refine awp_norm [4, 5, 6, 7] rfl rfl ?_; refine awp_seq ?_; refine awp_seq ?_; refine rgn fun pan K hp hK => ?_; refine hK _ ?_; clear hK hp K pan; refine awp_norm [4, 5, 6, 7, 34] rfl rfl ?_; refine awp_cond rfl ?_; refine awp_skip ?_; refine awp_seq ?_
  refine (awp_draw TT_ok mixed p3_8 [6] (fun _ => true) (by kernel_rfl) fun pan K hp hK => ?_)
  show aCall _ _ _ _ _ _ _
  refine aCall_ret (L := []) rfl rfl rfl sb rfl rfl rfl rfl ?_
  show aCall _ _ _ _ _ _ _
  refine aCall_ret (L := []) rfl rfl rfl ss rfl rfl rfl rfl ?_
  refine hK _ ?_; clear hK hp K pan; refine awp_norm [2] rfl rfl ?_; refine awp_ret ?_
  exact ⟨_, [], _, [.d (.s (.bool true))], rfl, rfl, rfl, rfl, rfl, by (first | exact PWs.refl _ | (simp; exact PWs.refl _)), rfl⟩
end
end Go.Abs
end
section
namespace Go.Abs
open Go Go.Proofs
theorem wat_size {W : List Wd} {m : Nat} (h : ∀ x, x ∈ W → x.1.size ≤ m) (k : Nat) : (wat W k).1.size ≤ m := by
  unfold wat
  rw [List.getD_eq_getElem?_getD]
  cases hk : W[k]? with
  | none => exact Nat.zero_le _
  | some x => exact h x (List.mem_of_getElem? hk)
theorem okP'_mem {n f : Nat} : ∀ {l : List Pc}, okP' n f l = true → ∀ p, p ∈ l → okB n p.body = true ∧ fuE p.ret ≤ n
  | [], _, p, hp => by cases hp
  | x :: r, h, p, hp => by
    simp only [okP', Bool.and_eq_true, decide_eq_true_eq] at h
    rcases List.mem_cons.1 hp with rfl | hp
    · exact ⟨h.1.1.1, h.1.2.2⟩
    exact okP'_mem h.2 p hp
theorem bk_of {g : Pg} (h : PgG 9900 g) : BkOk g := by
  have ho := h.ok
  simp only [okPg, Bool.and_eq_true] at ho
  refine ⟨Nat.le_trans h.wt (by decide), by have := h.main; omega, ho.2.1, fun f hf => ?_⟩
  obtain ⟨h1, h2⟩ := okP'_mem ho.1.2 f hf
  have := h.procs f hf
  exact ⟨by omega, h1, h2⟩
section
variable {t : Nat → TypeId} {u : Nat → Value}
/-- The law, over pure values. -/
theorem langReads_true (hE : ErrsOk t u) (s : ByteArray) : Spec Tryz.prog (GV t u) 3 [.d (str s)] [] (.ret (.d (.s (.bool true)))) [] := by
  rcases Nat.lt_or_ge 4000 s.size with hl | hl
  · exact reads_long hE s hl
  rcases Nat.lt_or_ge 2000 s.size with hm | hm
  · exact reads_mid s hm hl
  obtain ⟨W, hw, hlen, hsz⟩ := wordsR_ok s (s.size + 1) 0 [] (Nat.zero_le _) (by omega)
  have hW : WOk W := ⟨by simp only [List.length_nil] at hlen; omega, fun k => wat_size (m := 1000000) (fun x hx => by
    rcases hsz x hx with q | q
    · cases q
    omega) k⟩
  have hA := at_start hw
  have hk0 : 0 < W.length := hA.lt
  have tr := two_readers 32020 32024 (by omega) hA
  have pg := progG_ok 9900 s hl (by omega) 32020 (by omega) (nx s (p0 s))
  cases hr : progF s 32020 (nx s (p0 s)) with
  | ok g q =>
    rw [hr] at tr pg
    obtain ⟨X, h1, h2⟩ := tr
    have pg : PgG 9900 g := pg
    have sq := readQ_spec (G := GV t u) s hl _ hw hW hk0 32024 (by decide) (g, X) h1
    have e : finQ (g, X) = (g, 0, -1) := by
      unfold finQ
      rw [decide_eq_false (by simp only; omega)]
    rw [e] at sq
    exact reads_ok s hm g (read_ok t u s hl 32020 (by decide) g q hr) sq (back_spec _ g (bk_of pg)) (sameProg_spec _ (sameArrays_spec _) g (Nat.le_trans pg.wt (by decide)))
  | bad q c =>
    rw [hr] at tr
    obtain ⟨g, X, h1, h2, h3, h4⟩ := tr
    have sq := readQ_spec (G := GV t u) s hl _ hw hW hk0 32024 (by decide) (g, X) h1
    have e : finQ (g, X) = (zPg, ((posOf c + 1 : Nat) : Int), (q.i : Int)) := by
      unfold finQ
      rw [decide_eq_true (by simp only; omega), h3, h2]
      rfl
    rw [e] at sq
    exact reads_bad s hm c _ _ (decide_eq_true (by simp only; omega)) (read_bad t u s hl 32020 (by decide) q c hr) sq (faulted_flt c _ _ (code_flt hE q.i c (by omega)))
  | out =>
    rw [hr] at pg
    exact pg.elim
end
end Go.Abs
end
namespace Go.Abs
open Go Go.Proofs Go.Proofs.YtedljfabpknjiaaGreatDoor Go.ChangeShapes Go.WideShapes Go.ChangeAt Go.RowKit
set_option maxRecDepth 100000
theorem ownT : ownKnob Tryz.prog.godebug = none := by kernel_rfl
theorem laidOutT : laidOutB Tryz.prog = true := by kernel_rfl
theorem readT9 : Tryz.prog.readableRec 9 = true := by kernel_rfl
theorem size9 : 9 < Tryz.prog.types.size := of_decide_eq_true (by kernel_rfl)
theorem resT3 : Tryz.f3.resultTypes = #[4] := by kernel_rfl
theorem reads_contract (H : Type) (enc : TypeId × Value → H) (W : World) (base : Nat) (args : Array Value) (ds gs : List (DataW H)) (before : List MemPlace)
    (hval : ∀ (j : Nat) t v, Tryz.f3.params[j]? = some t → args[j]? = some v → Value.okWide Tryz.prog W .any base t v) (hW : DataW.Whole enc Tryz.prog Tryz.f3.params.toList Rows.langReadsSpec.vars false W args.toList ds gs before) (hcond : Rows.uptoSmall H (ds ++ gs) = true) (hL : laidMetH Tryz.prog laidAll W) :
    Calls Tryz.prog 3 args W fun e W' => ∃ v, e = .returned v ∧ Rows.langReadsSpec.post enc Tryz.prog Tryz.f3 false true false false W args v W' := by
  have hW' := hW
  obtain ⟨p, q, hA0, hV, rfl, hfz, hnd⟩ := hW
  have hA : DataW.TrodAll enc Tryz.prog W 0 (fun _ => true) true Tryz.f3.params.toList args.toList ds p := hA0
  rw [Tryz.params3] at hA
  obtain ⟨v0, d0, rfl, rfl, h0⟩ := trodAll_one hA
  obtain ⟨rfl, rfl⟩ := trodVars_none hV
  have hL' := laidOk_of hL
  obtain ⟨n, h0'⟩ := h0
  obtain ⟨s, rfl⟩ := okWide_string Tryz.underlying9 (hval 0 9 v0 (by rw [Tryz.params3]; rfl) rfl)
  have hS := langReads_true (errsOk_of hL') s
  have hc := hS.2.2 noRow (limOf W) W [.string s] (noRow_ok _ _) (globOk_of hL') (by
    simp only [Vs, V, VD.eq_1, str]
    exact ⟨_, [], rfl, rfl, rfl⟩)
  refine Calls.mono hc ?_
  rintro e W' ⟨H', lim', _, hF, _, _, hO⟩
  obtain ⟨v, rfl, hv⟩ := hO
  simp only [V, VD] at hv
  subst hv
  simp only [List.append_nil] at hW'
  have keep : ∀ sp : Nat → Bool, (∀ x ∈ p, sp x.block = true) → DataW.Trod enc Tryz.prog W' 0 sp true 9 (.string s) d0 p := fun sp hsp =>
    WideElems.Trod_stays laidOutT readT9 size9 ⟨n, h0'⟩ (fun x hx => same_of hF (hW'.lt x hx)) hsp
  exact ⟨_, rfl, post_at (pa := p) (pv := []) hW' (fun _ _ _ => trodAll_mk1 (shut_bool Tryz.underlying4 _)) (fun sp hsp => trodAll_mk1 (keep sp hsp)) (fun _ _ => rfl) (by simp) hF (ok_one resT3 rfl (okWide_bool_mk Tryz.underlying4 _))⟩
noncomputable def args3 : Array Value := #[.string ⟨#[]⟩]
theorem reads3 (os : Os) {H : Type} (enc : TypeId × Value → H) : ∃ ds places, DataW.whole enc Tryz.prog ((laidWorld os).forCall (fun _ _ => 0) ⟨#[], args3, []⟩).memory Tryz.f3.params.toList Rows.langReadsSpec.vars false args3.toList 8 = some (ds, [], places) ∧ Rows.uptoSmall H (ds ++ []) = true :=
  ⟨[.lit (.string [])], [], by kernel_rfl, by kernel_rfl⟩
theorem reads_lifted (os : Os) (started : os.Started) (H : Type) (enc : TypeId × Value → H) (F : Stop.Interp) :
    ReturnsInHanded {} Tryz.checked os 3 .any ((Rows.OpenSpec.upto Rows.langReadsSpec).preRow enc Tryz.prog Tryz.f3 Rows.langReadsUptoRow.domain false Rows.langReadsUptoRow.laid) (((Rows.OpenSpec.upto Rows.langReadsSpec).at F).post enc Tryz.prog Tryz.f3 false true false false) := by
  obtain ⟨ds, places, hx, hk⟩ := reads3 os enc
  refine returnsInHanded_of_row (C := Tryz.checked) (s := Rows.OpenSpec.upto Rows.langReadsSpec) ownT started (by kernel_rfl) Tryz.func3
    (witness_row_atRef (enc := enc) (C := Tryz.checked) false (laidWorld os) args3 rfl (laidWorld_vars os args3) (by kernel_rfl) (by kernel_rfl)
      (OpenSpec.preRow_of_cond 8 hx rfl (fun k hk' => by cases hk'; exact hk) (by kernel_rfl) (laidWorld_met os args3))) ?_
  intro W base args ds gs before hval hW _ hcond _ hL _ _
  exact reads_contract H enc W base args ds gs before hval hW (hcond _ rfl) hL
theorem readsSaid : Rows.LangReadsUptoSaid :=
  OpenClaim.holds_of_cond 3 Tryz.f3 rfl rfl rfl rfl rfl rfl rfl ⟨rfl, rfl, rfl, rfl, rfl⟩ rfl rfl rfl rfl rfl (by kernel_rfl) Tryz.func3 closed3
    (of_decide_eq_true (by kernel_rfl)) (by unfold Func.isWrapper; first | (rw [if_pos (by decide +kernel)]; kernel_rfl) | (rw [if_neg (by decide +kernel)]; exact ⟨rfl, rfl⟩))
    (fun os started H enc _ F => by rw [OpenClaim.pre_eq_preRow]; exact reads_lifted os started H enc F)
theorem readsPlain (f : FuncId) (fn : Func) (hf : Tryz.pinned.checked.prog.funcNamed "raycone/rayconelaw3.LangReads" = some f) (hfn : Tryz.pinned.checked.prog.funcs[f]? = some fn) :
    true = Tryz.pinned.checked.prog.looks [] ∧ ∀ (j : Nat) t, fn.params[j]? = some t → Tryz.pinned.checked.prog.wantsStandIn t = false := by
  obtain rfl : f = 3 := Option.some.inj ((show Tryz.prog.funcNamed "raycone/rayconelaw3.LangReads" = some 3 by kernel_rfl).symm.trans hf) |>.symm
  obtain rfl : fn = Tryz.f3 := (Option.some.inj (Tryz.func3.symm.trans hfn)).symm
  refine ⟨by kernel_rfl, fun j t ht => ?_⟩
  rw [Tryz.params3] at ht
  obtain rfl : t = 9 := by simpa using Array.mem_of_getElem? ht
  exact (show Tryz.prog.wantsStandIn 9 = false by kernel_rfl)
end Go.Abs
namespace Go.Proofs.YtedljfabpknjiaaGreatDoor
open Go Go.Abs
theorem langReadsCard : Rows.LangReadsUptoCardSaid :=
  Claim7.holds_tied_plain_at .later [] _ _ _ _ readsSaid (fun _ h => by cases h) (by kernel_rfl) (fun _ h => by cases h) langReadsUpto_row_tie rfl ⟨rfl, rfl⟩ (by kernel_rfl) rfl readsPlain (by kernel_rfl)
end Go.Proofs.YtedljfabpknjiaaGreatDoor
#print axioms Go.Proofs.YtedljfabpknjiaaGreatDoor.langReadsCard
