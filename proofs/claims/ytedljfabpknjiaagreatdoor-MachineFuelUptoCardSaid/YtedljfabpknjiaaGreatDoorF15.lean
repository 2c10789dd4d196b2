/- Texts of this proof, joined: AbsUF, AbsUH. -/
import Derived.Test.YtedljfabpknjiaaGreatDoorF14
import Derived.Test.YtedljfabpknjiaaGreatDoorF12
import Derived.Test.YtedljfabpknjiaaGreatDoorF9
section
namespace Go.Abs
open Go Go.Proofs
attribute [local irreducible] aCall AWp Sub Spec
theorem wtP_mem : ∀ {l : List Pc} {f : Pc}, f ∈ l → wtB f.body + wtV f.params ≤ wtP l
 | [], _, h => by cases h
 | g :: r, f, h => by
  simp only [wtP]
  rcases List.mem_cons.1 h with rfl | h
  ·omega
  have := wtP_mem h; omega
theorem pc_ok {arrays : List Ar} {procs : List Pc} {main : List Sm} (h : WfP arrays procs main) (hw : wtP procs ≤ 1000000000) : PcOk procs := fun f hf => by
 have h1 := wtP_mem hf; have h2 := wtV_len f.params; exact ⟨(h.pc f hf).1, (h.pc f hf).2, by omega, by omega⟩
def arZ (l : List Ar) : List (ByteArray × List Int) := l.map fun a => (a.name, List.replicate a.size.toNat 0)
theorem arZ_snoc (d : List Ar) (nm : ByteArray) (sz : Int) : arZ d ++ [(nm, List.replicate sz.toNat 0)] = arZ (d ++ [⟨nm, sz⟩]) := by simp [arZ]
theorem arZ_ok (l : List Ar) : AOk (arZ l) := by
 intro q hq n hn; obtain ⟨a, _, rfl⟩ := List.mem_map.1 hq; rw [List.eq_of_mem_replicate hn]; exact sml0
theorem arZ_new {d e : List Ar} {nm : ByteArray} {sz : Int} (h : (arN (d ++ ⟨nm, sz⟩ :: e)).Nodup) : amGet (arZ d) nm 0 = none := by
 refine amGet_new fun hm => ?_; simp only [arN, List.map_append, List.map_cons, List.nodup_append] at h; simp only [arZ, List.map_map, List.mem_map] at hm; obtain ⟨a, ha, hn⟩ := hm; exact h.2.2 a.name (List.mem_map.2 ⟨a, ha, rfl⟩) nm (List.mem_cons_self ..) hn
theorem prL_snoc {d e : List Pc} {f : Pc} (h : (pcN (d ++ f :: e)).Nodup) : mapPut (prL d) f.name (.agg f.cs) = prL (d ++ [f]) := by
 rw [mapPut_new fun hm => ?_]
 ·simp [prL]
 simp only [pcN, List.map_append, List.map_cons, List.nodup_append] at h; simp only [prL, List.map_map, List.mem_map] at hm; obtain ⟨a, ha, hn⟩ := hm; exact h.2.2 a.name (List.mem_map.2 ⟨a, ha, rfl⟩) f.name (List.mem_cons_self ..) hn
/-- What holds of arrays, whatever is put into them. -/
def Ky (P : List (ByteArray × List Int) → Prop) : MO → Prop
 | .out => True
 | .ok S => P S.ar
 | .stop _ S => P S.ar
section
variable {P : List (ByteArray × List Int) → Prop}
theorem ky_bind {a : MO} {f : MS → MO} (h : Ky P a) (k : ∀ S1, P S1.ar → Ky P (f S1)) : Ky P (a.bind f) := by
 cases a with
 | out => trivial
 | stop q S => exact h
 | ok S => exact k S h
theorem ky_ev {S : MS} {e : Ex} {f : Int → MO} (hS : P S.ar) (h : ∀ n, Ky P (f n)) : Ky P (evS S e f) := by
 unfold evS
 split
 ·exact hS
 exact h _
theorem ky_cd {S : MS} {c : List (List Ts)} {f : Bool → MO} (hS : P S.ar) (h : ∀ n, Ky P (f n)) : Ky P (cdS S c f) := by
 unfold cdS
 split
 ·exact hS
 exact h _
theorem ky_prm : ∀ (l : List ByteArray) (es : List Ex) (S : MS), P S.ar → Ky P (prmM l es S)
 | [], _, _, h => h
 | _ :: _, [], _, h => h
 | v :: r, e :: l, S, h => by
  simp only [prmM]; exact ky_ev h fun n => ky_prm r l { S with vs := putV S.vs v n } h
theorem ky_step (F : Int) (S : MS) (h : P S.ar) : Ky P (stepM F S) := by
 unfold stepM
 split <;> exact h
theorem ky_all (hP : ∀ ar s i n, P ar → P (setA ar s i n)) (ps : List Pc) (F : Int) : ∀ n : Nat, (∀ l S, P S.ar → Ky P (blkM ps F n l S)) ∧ (∀ s S, P S.ar → Ky P (stM ps F n s S)) ∧ (∀ c l S, P S.ar → Ky P (whM ps F n c l S))
 | 0 => ⟨fun l S _ => by simp only [blkM]; trivial, fun s S _ => by simp only [stM]; trivial, fun c l S _ => by simp only [whM]; trivial⟩
 | n + 1 => by
  obtain ⟨h1, h2, h3⟩ := ky_all hP ps F n; refine ⟨fun l S hS => ?_, fun s S hS => ?_, fun c l S hS => ?_⟩
  ·cases l with
   | nil => simp only [blkM]; exact hS
   | cons s r =>
    simp only [blkM]; exact ky_bind (ky_bind (ky_step F S hS) fun S1 q => h2 s S1 q) fun S2 q => h1 r S2 q
  ·obtain ⟨kind, name, proc, args, cond, body, els⟩ := s
   simp only [stM]
   repeat' split
   all_goals first
    | exact hS
    | exact ky_ev hS fun n => hS
    | exact ky_ev hS fun n => ky_ev hS fun m => by split <;> first | exact hS | exact hP _ _ _ _ hS
    | exact h3 _ _ _ hS
    | exact ky_cd hS fun b => by cases b <;> first | exact h1 _ _ hS | exact hS
    | exact ky_bind (ky_bind (ky_prm _ _ _ hS) fun S1 q => h1 _ S1 q) fun S2 q => ky_ev q fun n => q
  simp only [whM]; refine ky_cd hS fun b => ?_
  cases b with
  | false => exact hS
  | true => exact ky_bind (ky_bind (h1 _ _ hS) fun S1 q => ky_step F S1 q) fun S2 q => h3 c l S2 q
theorem all_ky (hP : ∀ ar s i n, P ar → P (setA ar s i n)) {ps : List Pc} {F : Int} {n : Nat} {l : List Sm} {S S1 : MS} {k : ByteArray} (h : allM ps F n l S = some (k, S1)) (hS : P S.ar) : P S1.ar := by
 have hk := (ky_all hP ps F n).1 l S hS
 unfold allM at h
 cases hb : blkM ps F n l S with
 | out => rw [hb] at h; cases h
 | ok A =>
  rw [hb] at h hk; rw [← (Prod.mk.inj (Option.some.inj h)).2]; exact hk
 | stop q A =>
  rw [hb] at h hk; rw [← (Prod.mk.inj (Option.some.inj h)).2]; exact hk
end
theorem setA_keys : ∀ (ar : List (ByteArray × List Int)) (s : ByteArray) (i : Nat) (n : Int), (setA ar s i n).map (·.1) = ar.map (·.1)
 | [], _, _, _ => rfl
 | (k, q) :: r, s, i, n => by
  have := setA_keys r s i n; simp only [setA]
  cases (s == k)
  ·simp only [List.map_cons, this]
  rfl
theorem all_keys {ps : List Pc} {F : Int} {n : Nat} {l : List Sm} {S S1 : MS} {k : ByteArray} (h : allM ps F n l S = some (k, S1)) : S1.ar.map (·.1) = S.ar.map (·.1) :=
 all_ky (P := fun ar => ar.map (·.1) = S.ar.map (·.1)) (fun ar s i n q => (setA_keys ar s i n).trans q) h rfl
def LenOk (ar : List (ByteArray × List Int)) : Prop := ∀ q, q ∈ ar → q.2.length ≤ 16
theorem setA_len : ∀ (ar : List (ByteArray × List Int)) (s : ByteArray) (i : Nat) (n : Int), LenOk ar → LenOk (setA ar s i n)
 | [], _, _, _, h => h
 | (k, q) :: r, s, i, n, h => by
  have h1 := setA_len r s i n fun q hq => h q (List.mem_cons_of_mem _ hq); have h0 := h _ (List.mem_cons_self ..); simp only [setA]
  cases (s == k)
  ·intro x hx
   rcases List.mem_cons.1 hx with rfl | hx
   ·exact h0
   exact h1 x hx
  intro x hx
  rcases List.mem_cons.1 hx with rfl | hx
  ·rw [List.length_set]
   exact h0
  exact h x (List.mem_cons_of_mem _ hx)
theorem getA_len : ∀ {ar : List (ByteArray × List Int)} {s : ByteArray}, LenOk ar → (getA ar s).length ≤ 16
 | [], _, _ => Nat.zero_le _
 | (k, p) :: r, s, h => by
  simp only [getA]
  cases (s == k)
  ·exact getA_len fun q hq => h q (List.mem_cons_of_mem _ hq)
  exact h _ (List.mem_cons_self ..)
theorem key_get {ar : List (ByteArray × List Int)} {s : ByteArray} (h : s ∈ ar.map (·.1)) : ∃ j, amGet ar s 0 = some (j, getA ar s) := by
 have h0 : ∀ (ar : List (ByteArray × List Int)) (i : Nat), s ∈ ar.map (·.1) → amGet ar s i ≠ none := by
  intro ar
  induction ar with
  | nil => intro i h; cases h
  | cons x r ih =>
   obtain ⟨k, l⟩ := x; intro i h; simp only [amGet]
   cases hb : (s == k) with
   | true => exact fun e => nomatch e
   | false =>
    rcases List.mem_cons.1 (show s ∈ k :: r.map (·.1) from h) with e | h
    ·exact absurd e (by rw [beq_bytes] at hb; exact of_decide_eq_false hb)
    exact ih (i + 1) h
 rcases ar_get ar s 0 with ⟨q, _⟩ | ⟨j, q, _⟩
 ·exact absurd q (h0 ar 0 h)
 exact ⟨j, by rw [q, Nat.zero_add]⟩
def arrL (ar : List (ByteArray × List Int)) (l : List Ar) : List (List Data) := l.map fun a => [.sl 1 (numsD (getA ar a.name))]
theorem arrL_snoc (ar : List (ByteArray × List Int)) (d : List Ar) (nm : ByteArray) (sz : Int) : arrL ar d ++ [[.sl 1 (numsD (getA ar nm))]] = arrL ar (d ++ [⟨nm, sz⟩]) := by simp [arrL]
theorem arrL_l (ar : List (ByteArray × List Int)) (d : List Ar) : (arrL ar d).length = d.length := by simp [arrL]
theorem numsM_snoc (vs : List (ByteArray × Int)) (d : List ByteArray) (v : ByteArray) : numsD (d.map (getV vs)) ++ [[num (getV vs v)]] = numsD ((d ++ [v]).map (getV vs)) := by simp [numsD, num]
/-- What a run ended with. -/
def endD (k : ByteArray) (S : MS) (vars : List ByteArray) (arrays : List Ar) : List Data := [str k, num S.steps, .sl 1 (numsD (vars.map (getV S.vs))), .sl 1 (arrL S.ar arrays)]
def zEnd : List Data := [str ⟨#[]⟩, num 0, .s (.slice none 0 0), .s (.slice none 0 0)]
theorem ints_at {l d e : List Int} {x : Int} (h : l = d ++ x :: e) : (numsD l)[((d.length : Nat) : Int).toNat]? = some [num x] := by
 subst h; rw [Int.toNat_natCast]
 simp [numsD, num]
section
variable {t : Nat → TypeId} {u : Nat → Value}
theorem run_no (vars : List ByteArray) (arrays : List Ar) (procs : List Pc) (main : List Sm) (inp : List Int) (F : Int) (j : Nat) (hck : Spec Tryz.prog (GV t u) 34 [.d (.agg (Pg.cs ⟨vars, arrays, procs, main⟩))] [] (.ret (.d (.s (.iface (t j) (u j))))) []) : Spec Tryz.prog (GV t u) 30 [.d (.agg (Pg.cs ⟨vars, arrays, procs, main⟩)), .d (.sl 1 (numsD inp)), .d (num F)] [] (.ret (.tup [.d (.agg zEnd), .d (.s (.iface (t j) (u j)))])) [] := by
 refine spec_of_awp2 TT_ok (N := 145) Tryz.func30 rfl (by rfl) (Nat.le_refl _) rfl ?_; refine rgs fun E K J O => ?_; refine O _ (aN [1, 2, 3, 6] rfl rfl ?_); clear O J K E; refine awp_seq ?_; refine rgs fun E K J O => ?_; show aCall _ _ _ _ _ _ _; refine aR [] rfl rfl rfl hck rfl rfl rfl rfl ?_; refine O _ (aN [1, 2, 3, 6, 8] rfl rfl ?_); clear O J K E; refine rgs fun E K J O => ?_; refine O _ (aN [1, 2, 3, 6, 8, 25] rfl rfl ?_); clear O J K E; refine awp_cond rfl ?_; refine rgs fun E K J O => ?_; refine O _ (aN [6, 7] rfl rfl ?_); clear O J K E; refine awp_ret ?_; exact ⟨_, [], _, [.d (.agg _), .d (.s _)], rfl, rfl, rfl, rfl, rfl, PWs.refl _, rfl⟩
def p30_10 : Plan := (.load 1 (.one 0 (.one 2 (.take 3 .done))))
theorem run_far (vars : List ByteArray) (arrays : List Ar) (procs : List Pc) (main : List Sm) (inp : List Int) (F : Int) (hck : Spec Tryz.prog (GV t u) 34 [.d (.agg (Pg.cs ⟨vars, arrays, procs, main⟩))] [] (.ret (.d (.s .nilIface))) []) (hlen : inp.length ≤ 40) (hF0 : 0 ≤ F) (hF1 : F ≤ 20000) (hcond : ∃ n, n ∈ inp ∧ farM n = true) : Spec Tryz.prog (GV t u) 30 [.d (.agg (Pg.cs ⟨vars, arrays, procs, main⟩)), .d (.sl 1 (numsD inp)), .d (num F)] [] (.ret (.tup [.d (.agg zEnd), .d (.s (.iface (t 0) (u 0)))])) [] := by
 refine spec_of_awp2 TT_ok (N := 145) Tryz.func30 rfl (by rfl) (Nat.le_refl _) rfl ?_; refine rgs fun E K J O => ?_; refine O _ (aN [1, 2, 3, 6] rfl rfl ?_); clear O J K E; refine awp_seq ?_; refine rgs fun E K J O => ?_; show aCall _ _ _ _ _ _ _; refine aR [] rfl rfl rfl hck rfl rfl rfl rfl ?_; refine O _ (aN [1, 2, 3, 6, 8] rfl rfl ?_); clear O J K E; refine rgs fun E K J O => ?_; refine O _ (aN [1, 2, 3, 6, 8, 25] rfl rfl ?_); clear O J K E; refine awp_cond rfl ?_; refine awp_skip ?_; refine awp_seq ?_; refine rgs fun E K J O => ?_; refine onB_intro (fun h1 => ?_) (fun h1 => ?_)
 ·exact absurd (of_decide_eq_true h1) (by rw [nums_l]; omega)
 refine onB_intro (fun h2 => ?_) (fun h2 => ?_)
 ·exact absurd (of_decide_eq_true h2) (by omega)
 refine O _ (aN [1, 2, 3, 6, 38] rfl rfl ?_); clear O J K E; refine awp_cond2 rfl (onB_intro (fun h3 => ?_) (fun h3 => ?_))
 ·exact absurd (of_decide_eq_true h3) (by omega)
 refine awp_skip ?_; refine awp_seq ?_; refine rgs fun E K J O => ?_; refine O _ (aN [1, 2, 3, 6, 41, 42, 43] rfl rfl ?_); clear O J K E; refine awp_block ?_; refine awp_loop (fun k Y => ∃ (d1 e1 : List Int), k = e1.length ∧ inp = d1 ++ e1 ∧ (∃ n, n ∈ e1 ∧ farM n = true) ∧ Y = ⟨[(1, .d (.sl 1 (numsD inp))), (2, .d (num F)), (3, .box 0 0), (6, .box 1 0), (41, .d (.sl 1 (numsD inp))), (42, .d (num (numsD inp).length)), (43, .d (num d1.length))], [.box 28 [.d (.sl 1 (strs vars)), .d (.sl 2 (ars arrays)), .d (.sl 7 (pcs procs)), .d (.sl 7 (sms main))], .box 76 [.d (str ⟨#[]⟩), .d (num 0), .d (.s (.slice none 0 0)), .d (.s (.slice none 0 0))]]⟩) (inp.length) (⟨[], inp, rfl, rfl, hcond, rfl⟩) ?_; rintro k Y ⟨d1, e1, rfl, hl1, hc1, rfl⟩
 have hll1 : (numsD inp).length = d1.length + e1.length := by rw [nums_l, hl1, List.length_append]
 have hdl1 : d1.length + e1.length ≤ 1073741824 := by rw [hl1, List.length_append] at hlen; omega
 refine rgs fun E K J O => ?_; refine O _ (aN [1, 2, 3, 6, 41, 42, 43, 44] rfl rfl ?_); clear O J K E; refine awp_seq ?_; refine awp_cond2 rfl (onB_intro (fun h4 => ?_) (fun h4 => ?_))
 ·have h4' := of_decide_eq_true h4
  rw [hll1] at h4'
  cases e1 with
  | nil => simp only [List.length_nil] at h4'; omega
  | cons x e1b =>
  subst hl1; simp only [List.length_cons] at hdl1; refine awp_skip ?_; refine awp_seq ?_; refine awp_block ?_; refine rgs fun E K J O => ?_; refine And.intro (by omega) (Exists.intro _ (And.intro (ints_at rfl) ?_)); refine O _ (aN [1, 2, 3, 6, 10, 41, 42, 43] rfl rfl ?_); clear O J K E; refine rgs fun E K J O => ?_; show aCall _ _ _ _ _ _ _; refine aR [] rfl rfl rfl (far_spec _ x) rfl rfl rfl rfl ?_; refine O _ (aN [1, 2, 3, 6, 41, 42, 43, 48] rfl rfl ?_); clear O J K E; refine awp_cond2 rfl (onB_intro (fun h5 => ?_) (fun h5 => ?_))
  ·refine awp_seq ?_
   refine (awp_draw TT_ok mixed p30_10 [] (fun _ => false) (by kernel_rfl) fun E K J O => ?_); refine O _ (aN [6, 7] rfl rfl ?_); clear O J K E; refine awp_ret ?_; exact ⟨_, [], _, [.d (.agg _), .d (.s _)], rfl, rfl, rfl, rfl, rfl, PWs.refl _, rfl⟩
  have hc2 : ∃ n, n ∈ e1b ∧ farM n = true := by
   obtain ⟨n, hn, hf⟩ := hc1
   rcases List.mem_cons.1 hn with rfl | hn
   ·rw [hf] at h5; cases h5
   exact ⟨n, hn, hf⟩
  refine awp_skip ?_; refine rgn fun E K J O => ?_; refine O _ ?_; clear O J K E; exact ⟨_, Nat.lt_succ_self _, _, sub_pick (L := [0, 1]) (slots := [1, 2, 3, 6, 41, 42, 43]) rfl rfl rfl rfl rfl, d1 ++ [x], e1b, rfl, by simp, hc2, by rw [List.length_append, wrapId (by omega) (by omega)]; rfl⟩
 have h4' := of_decide_eq_false h4; rw [hll1] at h4'; obtain rfl : e1 = [] := List.eq_nil_of_length_eq_zero (by omega); obtain ⟨n, hn, _⟩ := hc1; cases hn
def p30_16 : Plan := (.take 0 (.take 1 (.take 2 (.load 3 (.take 4 (.load 5 (.load 6 (.one 7 .done))))))))
def p30_21 : Plan := (.take 0 (.take 1 (.take 2 (.take 3 (.load 4 (.take 5 (.load 6 (.take 7 (.load 8 (.one 9 .done))))))))))
def p30_28 : Plan := (.take 0 (.load 1 (.take 2 (.take 3 (.take 4 (.take 5 (.load 6 (.take 7 (.load 8 (.one 9 (.one 10 (.take 11 (.one 12 .done)))))))))))))
def p30_33 : Plan := (.take 0 (.load 1 (.take 2 (.take 3 (.take 4 (.take 5 (.load 6 (.take 7 (.load 8 (.load 9 (.one 10 (.one 11 (.take 12 (.one 13 .done))))))))))))))
theorem run_ok (vars : List ByteArray) (arrays : List Ar) (procs : List Pc) (main : List Sm) (inp : List Int) (F : Int) (hck : Spec Tryz.prog (GV t u) 34 [.d (.agg (Pg.cs ⟨vars, arrays, procs, main⟩))] [] (.ret (.d (.s .nilIface))) []) (hwf : WfP arrays procs main) (hw0 : wtPg ⟨vars, arrays, procs, main⟩ ≤ 400000000) (hlen : inp.length ≤ 40) (hF0 : 0 ≤ F) (hF1 : F ≤ 20000) (hcond : ∀ n, n ∈ inp → farM n = false) (n : Nat) (kd : ByteArray) (S1 : MS) (hm : allM procs F n main ⟨[], arZ arrays, inp, 0⟩ = some (kd, S1)) : Spec Tryz.prog (GV t u) 30 [.d (.agg (Pg.cs ⟨vars, arrays, procs, main⟩)), .d (.sl 1 (numsD inp)), .d (num F)] [] (.ret (.tup [.d (.agg (endD kd S1 vars arrays)), .d (.s .nilIface)])) [] := by
 have hw := hw0; simp only [wtPg] at hw; have hvl := wtV_len vars; have hal := wtA_len arrays; have hpl := wtP_len procs
 have hnp : procs.length ≤ 1073741824 := by omega
 have hna : arrays.length ≤ 1073741824 := by omega
 have hnv : vars.length ≤ 1073741824 := by omega
 have hS0 : SOk F ⟨[], arZ arrays, inp, 0⟩ := by
  refine ⟨fun q hq => (List.not_mem_nil hq).elim, arZ_ok arrays, fun n hn => ?_, Int.le_refl _, hF0⟩; have h := hcond n hn; simp only [farM, Bool.or_eq_false_iff, decide_eq_false_iff_not] at h; exact ⟨by omega, by omega⟩
 have hall := all_spec (GV t u) procs F (by omega) (pc_ok hwf (by omega)) n main _ S1 kd hwf.mn (by omega) hS0 hm
 have hkeys : ∀ nm, nm ∈ arN arrays → nm ∈ S1.ar.map (·.1) := by
  intro nm hnm; rw [all_keys hm]; simp only [arZ, List.map_map]; exact hnm
 have hnP := hwf.pn; have hnA := hwf.an; have hsz0 := hwf.size; obtain ⟨vs1, ar1, inp1, st1⟩ := S1; refine spec_of_awp2 TT_ok (N := 145) Tryz.func30 rfl (by rfl) (Nat.le_refl _) rfl ?_; refine rgs fun E K J O => ?_; refine O _ (aN [1, 2, 3, 6] rfl rfl ?_); clear O J K E; refine awp_seq ?_; refine rgs fun E K J O => ?_; show aCall _ _ _ _ _ _ _; refine aR [] rfl rfl rfl hck rfl rfl rfl rfl ?_; refine O _ (aN [1, 2, 3, 6, 8] rfl rfl ?_); clear O J K E; refine rgs fun E K J O => ?_; refine O _ (aN [1, 2, 3, 6, 8, 25] rfl rfl ?_); clear O J K E; refine awp_cond rfl ?_; refine awp_skip ?_; refine awp_seq ?_; refine rgs fun E K J O => ?_; refine onB_intro (fun h1 => ?_) (fun h1 => ?_)
 ·exact absurd (of_decide_eq_true h1) (by rw [nums_l]; omega)
 refine onB_intro (fun h2 => ?_) (fun h2 => ?_)
 ·exact absurd (of_decide_eq_true h2) (by omega)
 refine O _ (aN [1, 2, 3, 6, 38] rfl rfl ?_); clear O J K E; refine awp_cond2 rfl (onB_intro (fun h3 => ?_) (fun h3 => ?_))
 ·exact absurd (of_decide_eq_true h3) (by omega)
 refine awp_skip ?_; refine awp_seq ?_; refine rgs fun E K J O => ?_; refine O _ (aN [1, 2, 3, 6, 41, 42, 43] rfl rfl ?_); clear O J K E; refine awp_block ?_; refine awp_loop (fun k Y => ∃ (d1 e1 : List Int), k = e1.length ∧ inp = d1 ++ e1 ∧ (∀ n, n ∈ e1 → farM n = false) ∧ Y = ⟨[(1, .d (.sl 1 (numsD inp))), (2, .d (num F)), (3, .box 0 0), (6, .box 1 0), (41, .d (.sl 1 (numsD inp))), (42, .d (num (numsD inp).length)), (43, .d (num d1.length))], [.box 28 [.d (.sl 1 (strs vars)), .d (.sl 2 (ars arrays)), .d (.sl 7 (pcs procs)), .d (.sl 7 (sms main))], .box 76 [.d (str ⟨#[]⟩), .d (num 0), .d (.s (.slice none 0 0)), .d (.s (.slice none 0 0))]]⟩) (inp.length) (⟨[], inp, rfl, rfl, hcond, rfl⟩) ?_; rintro k Y ⟨d1, e1, rfl, hl1, hc1, rfl⟩
 have hll1 : (numsD inp).length = d1.length + e1.length := by rw [nums_l, hl1, List.length_append]
 have hdl1 : d1.length + e1.length ≤ 1073741824 := by rw [hl1, List.length_append] at hlen; omega
 refine rgs fun E K J O => ?_; refine O _ (aN [1, 2, 3, 6, 41, 42, 43, 44] rfl rfl ?_); clear O J K E; refine awp_seq ?_; refine awp_cond2 rfl (onB_intro (fun h4 => ?_) (fun h4 => ?_))
 ·have h4' := of_decide_eq_true h4
  rw [hll1] at h4'
  cases e1 with
  | nil => simp only [List.length_nil] at h4'; omega
  | cons x e1b =>
  subst hl1; simp only [List.length_cons] at hdl1; refine awp_skip ?_; refine awp_seq ?_; refine awp_block ?_; refine rgs fun E K J O => ?_; refine And.intro (by omega) (Exists.intro _ (And.intro (ints_at rfl) ?_)); refine O _ (aN [1, 2, 3, 6, 10, 41, 42, 43] rfl rfl ?_); clear O J K E; refine rgs fun E K J O => ?_; show aCall _ _ _ _ _ _ _; refine aR [] rfl rfl rfl (far_spec _ x) rfl rfl rfl rfl ?_; refine O _ (aN [1, 2, 3, 6, 41, 42, 43, 48] rfl rfl ?_); clear O J K E; refine awp_cond2 rfl (onB_intro (fun h5 => ?_) (fun h5 => ?_))
  ·rw [hc1 x (List.mem_cons_self ..)] at h5
   cases h5
  have hc2 : ∀ n, n ∈ e1b → farM n = false := fun n hn => hc1 n (List.mem_cons_of_mem _ hn); refine awp_skip ?_; refine rgn fun E K J O => ?_; refine O _ ?_; clear O J K E; exact ⟨_, Nat.lt_succ_self _, _, sub_pick (L := [0, 1]) (slots := [1, 2, 3, 6, 41, 42, 43]) rfl rfl rfl rfl rfl, d1 ++ [x], e1b, rfl, by simp, hc2, by rw [List.length_append, wrapId (by omega) (by omega)]; rfl⟩
 have h4' := of_decide_eq_false h4; rw [hll1] at h4'; obtain rfl : e1 = [] := List.eq_nil_of_length_eq_zero (by omega); refine awp_exit ?_; refine awp_norm [1, 2, 3, 6] rfl rfl ?_; refine rgs fun E K J O => ?_; refine O _ (aN [3, 6, 11] rfl rfl ?_); clear O J K E; refine awp_seq ?_; refine rgs fun E K J O => ?_; refine O _ (aN [3, 6, 11, 61, 62, 63] rfl rfl ?_); clear O J K E; refine awp_block ?_; refine awp_loop (fun k Y => ∃ (d2 e2 : List Pc), k = e2.length ∧ procs = d2 ++ e2 ∧ Y = ⟨[(3, .box 0 0), (6, .box 1 0), (11, .box 5 0), (61, .d (.sl 7 (pcs procs))), (62, .d (num (pcs procs).length)), (63, .d (num d2.length))], [.box 28 [.d (.sl 1 (strs vars)), .d (.sl 2 (ars arrays)), .d (.sl 7 (pcs procs)), .d (.sl 7 (sms main))], .box 76 [.d (str ⟨#[]⟩), .d (num 0), .d (.s (.slice none 0 0)), .d (.s (.slice none 0 0))], .map 185 [], .amap 186 false [], .map 189 (prL d2), .box 191 [.acc 2, .am 3 0, .acc 4, .d (.sl 1 (numsD inp)), .d (num F), .d (num 0)]]⟩) (procs.length) (⟨[], procs, rfl, rfl, rfl⟩) ?_; rintro k Y ⟨d2, e2, rfl, hl2, rfl⟩
 have hll2 : (pcs procs).length = d2.length + e2.length := by rw [pcs_length, hl2, List.length_append]
 have hdl2 : d2.length + e2.length ≤ 1073741824 := by rw [hl2, List.length_append] at hnp; exact hnp
 refine rgs fun E K J O => ?_; refine O _ (aN [3, 6, 11, 61, 62, 63, 64] rfl rfl ?_); clear O J K E; refine awp_seq ?_; refine awp_cond2 rfl (onB_intro (fun h5 => ?_) (fun h5 => ?_))
 ·have h5' := of_decide_eq_true h5
  rw [hll2] at h5'
  cases e2 with
  | nil => simp only [List.length_nil] at h5'; omega
  | cons x e2b =>
  obtain ⟨fnm, fp, fb, ⟨ro, rn, rm, rl⟩⟩ := x; subst hl2; simp only [List.length_cons] at hdl2; refine awp_skip ?_; refine awp_seq ?_; refine awp_block ?_; refine rgs fun E K J O => ?_; refine And.intro (by omega) (Exists.intro _ (And.intro (pcs_at rfl) ?_)); refine O _ (aN [3, 6, 11, 13, 61, 62, 63] rfl rfl ?_); clear O J K E; refine (awp_draw TT_ok mixed p30_16 [7] (fun i => Nat.beq i 5 || Nat.beq i 6) (by kernel_rfl) fun E K J O => ?_); refine Exists.intro _ (And.intro (prL_snoc hnP) ?_); refine O _ (aN [3, 6, 11, 61, 62, 63] rfl rfl ?_); clear O J K E; refine rgn fun E K J O => ?_; refine O _ ?_; clear O J K E; exact ⟨_, Nat.lt_succ_self _, _, sub_pick (L := [0, 1, 2, 3, 4, 5]) (slots := [3, 6, 11, 61, 62, 63]) rfl rfl rfl rfl rfl, d2 ++ [⟨fnm, fp, fb, .mk ro rn rm rl⟩], e2b, rfl, by simp, by rw [List.length_append, wrapId (by omega) (by omega)]; rfl⟩
 have h5' := of_decide_eq_false h5; rw [hll2] at h5'; obtain rfl : e2 = [] := List.eq_nil_of_length_eq_zero (by omega); rw [List.append_nil] at hl2; subst hl2; refine awp_exit ?_; refine awp_norm [3, 6, 11] rfl rfl ?_; refine awp_seq ?_; refine rgs fun E K J O => ?_; refine O _ (aN [3, 6, 11, 76, 77, 78] rfl rfl ?_); clear O J K E; refine awp_block ?_; refine awp_loop (fun k Y => ∃ (d3 e3 : List Ar), k = e3.length ∧ arrays = d3 ++ e3 ∧ Y = ⟨[(3, .box 0 0), (6, .box 1 0), (11, .box 5 0), (76, .d (.sl 2 (ars arrays))), (77, .d (num (ars arrays).length)), (78, .d (num d3.length))], [.box 28 [.d (.sl 1 (strs vars)), .d (.sl 2 (ars arrays)), .d (.sl 7 (pcs procs)), .d (.sl 7 (sms main))], .box 76 [.d (str ⟨#[]⟩), .d (num 0), .d (.s (.slice none 0 0)), .d (.s (.slice none 0 0))], .map 185 [], .amap 186 false (arZ d3), .map 189 (prL procs), .box 191 [.acc 2, .am 3 0, .acc 4, .d (.sl 1 (numsD inp)), .d (num F), .d (num 0)]]⟩) (arrays.length) (⟨[], arrays, rfl, rfl, rfl⟩) ?_; rintro k Y ⟨d3, e3, rfl, hl3, rfl⟩
 have hll3 : (ars arrays).length = d3.length + e3.length := by rw [ars_length, hl3, List.length_append]
 have hdl3 : d3.length + e3.length ≤ 1073741824 := by rw [hl3, List.length_append] at hna; exact hna
 refine rgs fun E K J O => ?_; refine O _ (aN [3, 6, 11, 76, 77, 78, 79] rfl rfl ?_); clear O J K E; refine awp_seq ?_; refine awp_cond2 rfl (onB_intro (fun h6 => ?_) (fun h6 => ?_))
 ·have h6' := of_decide_eq_true h6
  rw [hll3] at h6'
  cases e3 with
  | nil => simp only [List.length_nil] at h6'; omega
  | cons x e3b =>
  obtain ⟨nm, sz⟩ := x; subst hl3; simp only [List.length_cons] at hdl3; have hsz := hsz0 _ (List.mem_append_right _ (List.mem_cons_self ..)); simp only at hsz; refine awp_skip ?_; refine awp_seq ?_; refine awp_block ?_; refine rgs fun E K J O => ?_; refine And.intro (by omega) (Exists.intro _ (And.intro (ars_at rfl) ?_)); refine O _ (aN [3, 6, 11, 15, 76, 77, 78] rfl rfl ?_); clear O J K E; refine awp_insD TT_ok mixed p30_21 [10] (fun i => Nat.beq i 5 || Nat.beq i 6) 10 [3, 6, 11, 76, 77, 78] (by kernel_rfl) rfl rfl rfl rfl fun E K J O => ?_; refine And.intro rfl (Exists.intro sz.toNat (And.intro (Int.toNat_of_nonneg (show (0 : Int) ≤ sz by omega)).symm (And.intro (by show 8 * sz.toNat ≤ _; omega) (And.intro (by show sz.toNat ≤ 9223372036854775807; omega) ?_)))); refine O _ ⟨_, _, _, 3, 7, _, _, _, _, _, _, rfl, rfl, rfl, rfl, rfl, rfl, rfl, rfl, rfl, by decide, Nat.zero_le _, arZ_new hnA, rfl, rfl, rfl, ?_⟩; clear O J K E; refine awp_norm [3, 6, 11, 76, 77, 78] rfl rfl ?_; refine rgn fun E K J O => ?_; refine O _ ?_; clear O J K E; exact ⟨_, Nat.lt_succ_self _, _, sub_pick (L := [0, 1, 2, 3, 4, 5]) (slots := [3, 6, 11, 76, 77, 78]) rfl rfl rfl rfl rfl, d3 ++ [⟨nm, sz⟩], e3b, rfl, by simp, by rw [← arZ_snoc, List.length_append, wrapId (by omega) (by omega)]; rfl⟩
 have h6' := of_decide_eq_false h6; rw [hll3] at h6'; obtain rfl : e3 = [] := List.eq_nil_of_length_eq_zero (by omega); rw [List.append_nil] at hl3; subst hl3; refine awp_exit ?_; refine awp_norm [3, 6, 11] rfl rfl ?_; refine rgs fun E K J O => ?_; show aCall _ _ _ _ _ _ _; refine aR [5, 2, 3, 4] rfl rfl rfl hall rfl rfl rfl rfl ?_; refine O _ (aN [3, 6, 11, 16] rfl rfl ?_); clear O J K E; refine rgs fun E K J O => ?_; refine O _ (aN [3, 6, 11, 17] rfl rfl ?_); clear O J K E; refine awp_fz 3 rfl ?_; refine awp_accCell 6 2 3 1 rfl rfl rfl rfl ?_; refine awp_accCell 6 3 56 1 rfl rfl rfl rfl ?_; refine awp_norm [3, 6, 11, 17] rfl rfl ?_; refine awp_seq ?_; refine rgs fun E K J O => ?_; refine O _ (aN [3, 6, 11, 17, 104, 105, 106] rfl rfl ?_); clear O J K E; refine awp_block ?_; refine awp_loop (fun k Y => ∃ (d4 e4 : List ByteArray), k = e4.length ∧ vars = d4 ++ e4 ∧ Y = ⟨[(3, .box 0 0), (6, .box 1 0), (11, .box 5 0), (17, .box 6 0), (104, .d (.sl 1 (strs vars))), (105, .d (num (strs vars).length)), (106, .d (num d4.length))], [.box 28 [.d (.sl 1 (strs vars)), .d (.sl 2 (ars arrays)), .d (.sl 7 (pcs procs)), .d (.sl 7 (sms main))], .box 76 [.d (str ⟨#[]⟩), .d (num 0), .d (.s (.slice none 0 0)), .d (.s (.slice none 0 0))], .map 185 (vsL vs1), .amap 186 true ar1, .map 189 (prL procs), .box 191 [.acc 2, .am 3 0, .acc 4, .d (.sl 1 (numsD inp1)), .d (num F), .d (num st1)], .box 76 [.d (str kd), .d (num st1), .acc 7, .acc 8], .acc 3 1 (numsD (d4.map (getV vs1))), .acc 56 1 []]⟩) (vars.length) (⟨[], vars, rfl, rfl, rfl⟩) ?_; rintro k Y ⟨d4, e4, rfl, hl4, rfl⟩
 have hll4 : (strs vars).length = d4.length + e4.length := by rw [strs_length, hl4, List.length_append]
 have hdl4 : d4.length + e4.length ≤ 1073741824 := by rw [hl4, List.length_append] at hnv; exact hnv
 refine rgs fun E K J O => ?_; refine O _ (aN [3, 6, 11, 17, 104, 105, 106, 107] rfl rfl ?_); clear O J K E; refine awp_seq ?_; refine awp_cond2 rfl (onB_intro (fun h7 => ?_) (fun h7 => ?_))
 ·have h7' := of_decide_eq_true h7
  rw [hll4] at h7'
  cases e4 with
  | nil => simp only [List.length_nil] at h7'; omega
  | cons v e4b =>
  subst hl4; simp only [List.length_cons] at hdl4; refine awp_skip ?_; refine awp_seq ?_; refine awp_block ?_; refine rgs fun E K J O => ?_; refine And.intro (by omega) (Exists.intro _ (And.intro (str_at rfl) ?_)); refine O _ (aN [3, 6, 11, 17, 19, 104, 105, 106] rfl rfl ?_); clear O J K E; refine (awp_draw TT_ok mixed p30_28 [10, 12] (fun i => Nat.beq i 2 || Nat.beq i 5 || Nat.beq i 6) (by kernel_rfl) fun E K J O => ?_); refine lk_vs (T := TT) (e := 3) rfl ?_; refine And.intro (And.intro ((by simp only [nums_l, chunk_length, List.length_map]; omega)) ((by simp only [nums_l, chunk_length, List.length_map, maxLen]; omega))) ?_; refine O _ (aN [3, 6, 11, 17, 104, 105, 106] rfl rfl ?_); clear O J K E; refine rgn fun E K J O => ?_; refine O _ ?_; clear O J K E; exact ⟨_, Nat.lt_succ_self _, _, sub_pick (L := [0, 1, 2, 3, 4, 5, 6, 7, 8]) (slots := [3, 6, 11, 17, 104, 105, 106]) rfl rfl rfl rfl rfl, d4 ++ [v], e4b, rfl, by simp, by rw [← numsM_snoc, List.length_append, wrapId (by omega) (by omega)]; rfl⟩
 have h7' := of_decide_eq_false h7; rw [hll4] at h7'; obtain rfl : e4 = [] := List.eq_nil_of_length_eq_zero (by omega); rw [List.append_nil] at hl4; subst hl4; refine awp_exit ?_; refine awp_norm [3, 6, 11, 17] rfl rfl ?_; refine awp_seq ?_; refine rgs fun E K J O => ?_; refine O _ (aN [6, 11, 17, 124, 125, 126] rfl rfl ?_); clear O J K E; refine awp_block ?_; refine awp_loop (fun k Y => ∃ (d5 e5 : List Ar), k = e5.length ∧ arrays = d5 ++ e5 ∧ Y = ⟨[(6, .box 1 0), (11, .box 5 0), (17, .box 6 0), (124, .d (.sl 2 (ars arrays))), (125, .d (num (ars arrays).length)), (126, .d (num d5.length))], [.box 28 [.d (.sl 1 (strs vars)), .d (.sl 2 (ars arrays)), .d (.sl 7 (pcs procs)), .d (.sl 7 (sms main))], .box 76 [.d (str ⟨#[]⟩), .d (num 0), .d (.s (.slice none 0 0)), .d (.s (.slice none 0 0))], .map 185 (vsL vs1), .amap 186 true ar1, .map 189 (prL procs), .box 191 [.acc 2, .am 3 0, .acc 4, .d (.sl 1 (numsD inp1)), .d (num F), .d (num st1)], .box 76 [.d (str kd), .d (num st1), .acc 7, .acc 8], .acc 3 1 (numsD (vars.map (getV vs1))), .acc 56 1 (arrL ar1 d5)]⟩) (arrays.length) (⟨[], arrays, rfl, rfl, rfl⟩) ?_; rintro k Y ⟨d5, e5, rfl, hl5, rfl⟩
 have hll5 : (ars arrays).length = d5.length + e5.length := by rw [ars_length, hl5, List.length_append]
 have hdl5 : d5.length + e5.length ≤ 1073741824 := by rw [hl5, List.length_append] at hna; exact hna
 refine rgs fun E K J O => ?_; refine O _ (aN [6, 11, 17, 124, 125, 126, 127] rfl rfl ?_); clear O J K E; refine awp_seq ?_; refine awp_cond2 rfl (onB_intro (fun h8 => ?_) (fun h8 => ?_))
 ·have h8' := of_decide_eq_true h8
  rw [hll5] at h8'
  cases e5 with
  | nil => simp only [List.length_nil] at h8'; omega
  | cons x e5b =>
  obtain ⟨nm, sz⟩ := x; subst hl5; simp only [List.length_cons] at hdl5; obtain ⟨j, hgj⟩ := key_get (hkeys nm (by simp [arN])); refine awp_skip ?_; refine awp_seq ?_; refine awp_block ?_; refine rgs fun E K J O => ?_; refine And.intro (by omega) (Exists.intro _ (And.intro (ars_at rfl) ?_)); refine O _ (aN [6, 11, 17, 21, 124, 125, 126] rfl rfl ?_); clear O J K E; refine (awp_draw TT_ok mixed p30_33 [11, 13] (fun i => Nat.beq i 3 || Nat.beq i 5 || Nat.beq i 6 || Nat.beq i 9) (by kernel_rfl) fun E K J O => ?_); refine Exists.intro _ (And.intro hgj ?_); refine And.intro (And.intro ((by simp only [arrL_l, chunk_length]; omega)) ((by simp only [arrL_l, chunk_length, maxLen]; omega))) ?_; refine O _ (aN [6, 11, 17, 124, 125, 126] rfl rfl ?_); clear O J K E; refine rgn fun E K J O => ?_; refine O _ ?_; clear O J K E; exact ⟨_, Nat.lt_succ_self _, _, sub_pick (L := [0, 1, 2, 3, 4, 5, 6, 7, 8]) (slots := [6, 11, 17, 124, 125, 126]) rfl rfl rfl rfl rfl, d5 ++ [⟨nm, sz⟩], e5b, rfl, by simp, by rw [← arrL_snoc, List.length_append, wrapId (by omega) (by omega)]; rfl⟩
 have h8' := of_decide_eq_false h8; rw [hll5] at h8'; obtain rfl : e5 = [] := List.eq_nil_of_length_eq_zero (by omega); rw [List.append_nil] at hl5; subst hl5; refine awp_exit ?_; refine awp_norm [6, 17] rfl rfl ?_; refine rgs fun E K J O => ?_; refine O _ (aN [6, 7] rfl rfl ?_); clear O J K E; refine awp_ret ?_; exact ⟨_, [], _, [.d (.agg (endD kd ⟨vs1, ar1, inp1, st1⟩ vars arrays)), .d (.s .nilIface)], rfl, rfl, rfl, rfl, rfl, PWs.refl _, rfl⟩
end
end Go.Abs
end
section
namespace Go.Abs
open Go Go.Proofs
attribute [local irreducible] aCall AWp Sub Spec
/-- Lists of numbers. -/
def lsD (ls : List (List Int)) : List (List Data) := ls.map fun l => [.sl 1 (numsD l)]
theorem lsD_l (ls : List (List Int)) : (lsD ls).length = ls.length := by simp [lsD]
theorem lsD_at {l d e : List (List Int)} {x : List Int} (h : l = d ++ x :: e) : (lsD l)[((d.length : Nat) : Int).toNat]? = some [.sl 1 (numsD x)] := by
 subst h; rw [Int.toNat_natCast]
 simp [lsD]
theorem arr_ls (ar : List (ByteArray × List Int)) (l : List Ar) : arrL ar l = lsD (l.map fun a => getA ar a.name) := by simp [arrL, lsD]
section
variable (G : Glob)
def p28_6 : Plan := (.take 0 (.take 1 (.take 2 (.load 3 (.take 4 (.take 5 (.take 6 (.load 7 (.take 8 .done)))))))))
theorem sameI (l : List Int) (hb : l.length ≤ 1073741824) : Spec Tryz.prog G 28 [.d (.sl 1 (numsD l)), .d (.sl 1 (numsD l))] [] (.ret (.d (.s (.bool true)))) [] := by
 refine spec_of_awp2 TT_ok (N := 26) Tryz.func28 rfl (by rfl) (Nat.le_refl _) rfl ?_; refine rgs fun E K J O => ?_; refine O _ (aN [0, 1] rfl rfl ?_); clear O J K E; refine awp_seq ?_; refine rgs fun E K J O => ?_; refine O _ (aN [0, 1, 10] rfl rfl ?_); clear O J K E; refine awp_cond2 rfl (onB_intro (fun h1 => ?_) (fun h1 => ?_))
 ·simp at h1
 refine awp_skip ?_; refine awp_seq ?_; refine rgs fun E K J O => ?_; refine O _ (aN [0, 1, 5] rfl rfl ?_); clear O J K E; refine awp_block ?_; refine awp_loop (fun k Y => ∃ (d1 e1 : List Int), k = e1.length ∧ l = d1 ++ e1 ∧ Y = ⟨[(0, .d (.sl 1 (numsD l))), (1, .d (.sl 1 (numsD l))), (5, .d (num d1.length))], []⟩) (l.length) (⟨[], l, rfl, rfl, rfl⟩) ?_; rintro k Y ⟨d1, e1, rfl, hl1, rfl⟩
 have hll1 : (numsD l).length = d1.length + e1.length := by rw [nums_l, hl1, List.length_append]
 have hdl1 : d1.length + e1.length ≤ 1073741824 := by rw [hl1, List.length_append] at hb; exact hb
 refine awp_seq ?_; refine rgs fun E K J O => ?_; refine O _ (aN [0, 1, 5, 14] rfl rfl ?_); clear O J K E; refine awp_cond2 rfl (onB_intro (fun h2 => ?_) (fun h2 => ?_))
 ·have h2' := of_decide_eq_true h2
  rw [hll1] at h2'
  cases e1 with
  | nil => simp only [List.length_nil] at h2'; omega
  | cons x e1b =>
  subst hl1; simp only [List.length_cons] at hdl1; refine awp_skip ?_; refine awp_seq ?_; refine awp_block ?_; refine awp_seq ?_; refine (awp_draw TT_ok mixed p28_6 [] (fun _ => true) (by kernel_rfl) fun E K J O => ?_); refine And.intro (by omega) (Exists.intro _ (And.intro (ints_at rfl) ?_)); refine And.intro (by omega) (Exists.intro _ (And.intro (ints_at rfl) ?_)); refine O _ (aN [0, 1, 5, 25] rfl rfl ?_); clear O J K E; refine awp_cond2 rfl (onB_intro (fun h3 => ?_) (fun h3 => ?_))
  ·simp at h3
  refine awp_skip ?_; refine rgn fun E K J O => ?_; refine O _ ?_; clear O J K E; exact ⟨_, Nat.lt_succ_self _, _, sub_norm (slots := [0, 1, 5]) rfl rfl, d1 ++ [x], e1b, rfl, by simp, by rw [List.length_append, wrapId (by omega) (by omega)]; rfl⟩
 have h2' := of_decide_eq_false h2; rw [hll1] at h2'; obtain rfl : e1 = [] := List.eq_nil_of_length_eq_zero (by omega); rw [List.append_nil] at hl1; subst hl1; refine awp_exit ?_; refine awp_norm [] rfl rfl ?_; refine rgs fun E K J O => ?_; refine O _ (aN [4] rfl rfl ?_); clear O J K E; refine awp_ret ?_; exact ⟨_, [], _, [.d (.s (.bool true))], rfl, rfl, rfl, rfl, rfl, PWs.refl _, rfl⟩
def p48_6 : Plan := (.take 0 (.take 1 (.take 2 (.load 3 (.take 4 (.take 5 (.take 6 (.load 7 (.one 8 (.take 9 .done))))))))))
theorem sameL (l : List (List Int)) (hb : l.length ≤ 1073741824) (hl16 : ∀ x, x ∈ l → x.length ≤ 16) : Spec Tryz.prog G 48 [.d (.sl 1 (lsD l)), .d (.sl 1 (lsD l))] [] (.ret (.d (.s (.bool true)))) [] := by
 refine spec_of_awp2 TT_ok (N := 29) Tryz.func48 rfl (by rfl) (Nat.le_refl _) rfl ?_; refine rgs fun E K J O => ?_; refine O _ (aN [0, 1] rfl rfl ?_); clear O J K E; refine awp_seq ?_; refine rgs fun E K J O => ?_; refine O _ (aN [0, 1, 11] rfl rfl ?_); clear O J K E; refine awp_cond2 rfl (onB_intro (fun h1 => ?_) (fun h1 => ?_))
 ·simp at h1
 refine awp_skip ?_; refine awp_seq ?_; refine rgs fun E K J O => ?_; refine O _ (aN [0, 1, 5] rfl rfl ?_); clear O J K E; refine awp_block ?_; refine awp_loop (fun k Y => ∃ (d1 e1 : List (List Int)), k = e1.length ∧ l = d1 ++ e1 ∧ Y = ⟨[(0, .d (.sl 1 (lsD l))), (1, .d (.sl 1 (lsD l))), (5, .d (num d1.length))], []⟩) (l.length) (⟨[], l, rfl, rfl, rfl⟩) ?_; rintro k Y ⟨d1, e1, rfl, hl1, rfl⟩
 have hll1 : (lsD l).length = d1.length + e1.length := by rw [lsD_l, hl1, List.length_append]
 have hdl1 : d1.length + e1.length ≤ 1073741824 := by rw [hl1, List.length_append] at hb; exact hb
 refine awp_seq ?_; refine rgs fun E K J O => ?_; refine O _ (aN [0, 1, 5, 15] rfl rfl ?_); clear O J K E; refine awp_cond2 rfl (onB_intro (fun h2 => ?_) (fun h2 => ?_))
 ·have h2' := of_decide_eq_true h2
  rw [hll1] at h2'
  cases e1 with
  | nil => simp only [List.length_nil] at h2'; omega
  | cons x e1b =>
  subst hl1; simp only [List.length_cons] at hdl1; have hx := hl16 x (by simp); refine awp_skip ?_; refine awp_seq ?_; refine awp_block ?_; refine awp_seq ?_; refine (awp_draw TT_ok mixed p48_6 [8] (fun _ => true) (by kernel_rfl) fun E K J O => ?_); refine And.intro (by omega) (Exists.intro _ (And.intro (lsD_at rfl) ?_)); refine And.intro (by omega) (Exists.intro _ (And.intro (lsD_at rfl) ?_))
  show aCall _ _ _ _ _ _ _
  refine aR [] rfl rfl rfl (sameI G x (by omega)) rfl rfl rfl rfl ?_; refine O _ (aN [0, 1, 5, 6] rfl rfl ?_); clear O J K E; refine rgs fun E K J O => ?_; refine O _ (aN [0, 1, 5, 28] rfl rfl ?_); clear O J K E; refine awp_cond rfl ?_; refine awp_skip ?_; refine rgn fun E K J O => ?_; refine O _ ?_; clear O J K E; exact ⟨_, Nat.lt_succ_self _, _, sub_norm (slots := [0, 1, 5]) rfl rfl, d1 ++ [x], e1b, rfl, by simp, by rw [List.length_append, wrapId (by omega) (by omega)]; rfl⟩
 have h2' := of_decide_eq_false h2; rw [hll1] at h2'; obtain rfl : e1 = [] := List.eq_nil_of_length_eq_zero (by omega); rw [List.append_nil] at hl1; subst hl1; refine awp_exit ?_; refine awp_norm [] rfl rfl ?_; refine rgs fun E K J O => ?_; refine O _ (aN [4] rfl rfl ?_); clear O J K E; refine awp_ret ?_; exact ⟨_, [], _, [.d (.s (.bool true))], rfl, rfl, rfl, rfl, rfl, PWs.refl _, rfl⟩
theorem intsM (l : List Int) (hl : l.length ≤ 1000000000) : Spec Tryz.prog G 31 [.d (.sl 1 (numsD l))] [] (.ret (.d (.sl 1 (numsD l)))) [] := by
 refine spec_of_awp2 TT_ok (N := 7) Tryz.func31 rfl (by rfl) (Nat.le_refl _) rfl ?_; refine rgs fun E K J O => ?_; refine O _ (aN [0] rfl rfl ?_); clear O J K E; refine rgs fun E K J O => ?_; refine O _ (aN [0, 3] rfl rfl ?_); clear O J K E; refine rgs fun E K J O => ?_; refine And.intro (And.intro ((by simp only [nums_l]; omega)) ((by simp only [nums_l, maxLen]; omega))) ?_; refine O _ (aN [2] rfl rfl ?_); clear O J K E; refine awp_ret ?_; exact ⟨_, [], _, [.d (.sl 1 (numsD l))], rfl, rfl, rfl, rfl, rfl, PWs.refl _, rfl⟩
theorem noEnd_z : Spec Tryz.prog G 32 [.d (.agg zEnd)] [] (.ret (.d (.s (.bool true)))) [] := by
 refine spec_of_awp2 TT_ok (N := 23) Tryz.func32 rfl (by rfl) (Nat.le_refl _) rfl ?_; refine rgs fun E K J O => ?_; refine O _ (aN [1] rfl rfl ?_); clear O J K E; refine rgs fun E K J O => ?_; refine onB_intro (fun h1 => ?_) (fun h1 => ?_)
 ·refine O _ (aN [2] rfl rfl ?_); clear O J K E; refine awp_ret ?_
  exact ⟨_, [], _, [.d (.s (.bool true))], rfl, rfl, rfl, rfl, rfl, PWs.refl _, rfl⟩
 simp at h1
theorem isEnd_same (kd : ByteArray) (st : Int) (vl : List Int) (ls : List (List Int)) (hvl : vl.length ≤ 1073741824) (hls : ls.length ≤ 1073741824) (hl16 : ∀ x, x ∈ ls → x.length ≤ 16) : Spec Tryz.prog G 33 [.d (.agg [str kd, num st, .sl 1 (numsD vl), .sl 1 (lsD ls)]), .d (.agg [str kd, num st, .sl 1 (numsD vl), .sl 1 (lsD ls)])] [] (.ret (.d (.s (.bool true)))) [] := by
 refine spec_of_awp2 TT_ok (N := 31) Tryz.func33 rfl (by rfl) (Nat.le_refl _) rfl ?_; refine rgs fun E K J O => ?_; refine O _ (aN [2, 3] rfl rfl ?_); clear O J K E; refine rgs fun E K J O => ?_; refine onB_intro (fun h1 => ?_) (fun h1 => ?_)
 ·refine onB_intro (fun h2 => ?_) (fun h2 => ?_)
  ·show aCall _ _ _ _ _ _ _
   refine aR [] rfl rfl rfl (sameI G vl hvl) rfl rfl rfl rfl ?_
   show aCall _ _ _ _ _ _ _
   refine aR [] rfl rfl rfl (sameL G ls hls hl16) rfl rfl rfl rfl ?_; refine O _ (aN [4] rfl rfl ?_); clear O J K E; refine awp_ret ?_; exact ⟨_, [], _, [.d (.s (.bool true))], rfl, rfl, rfl, rfl, rfl, PWs.refl _, rfl⟩
  simp at h2
 simp at h1
end
section
variable {t : Nat → TypeId} {u : Nat → Value}
theorem fuel_out (p : Pg) (inp : List Int) (F M : Int) (hbad : ¬ (inp.length ≤ 40 ∧ 0 ≤ F ∧ 0 ≤ M ∧ F ≤ 2000 ∧ M ≤ 2000)) : Spec Tryz.prog (GV t u) 7 [.d (.agg p.cs), .d (.sl 1 (numsD inp)), .d (num F), .d (num M)] [] (.ret (.d (.s (.bool true)))) [] := by
 refine spec_of_awp2 TT_ok (N := 95) Tryz.func7 rfl (by rfl) (Nat.le_refl _) rfl ?_; refine rgs fun E K J O => ?_; refine O _ (aN [1, 2, 3, 4] rfl rfl ?_); clear O J K E; refine rgs fun E K J O => ?_; show aCall _ _ _ _ _ _ _; refine aR [] rfl rfl rfl (one_true t u) rfl rfl rfl rfl ?_; refine O _ (aN [1, 2, 3, 4, 9] rfl rfl ?_); clear O J K E; refine awp_seq ?_; refine rgs fun E K J O => ?_; refine onB_intro (fun h1 => ?_) (fun h1 => ?_)
 ·refine O _ (aN [1, 2, 3, 4, 9, 36] rfl rfl ?_); clear O J K E; refine awp_cond rfl ?_; refine rgs fun E K J O => ?_; refine O _ (aN [8] rfl rfl ?_); clear O J K E; refine awp_ret ?_
  exact ⟨_, [], _, [.d (.s (.bool true))], rfl, rfl, rfl, rfl, rfl, PWs.refl _, rfl⟩
 have g1 := of_decide_eq_false h1; rw [nums_l] at g1; refine onB_intro (fun h2 => ?_) (fun h2 => ?_)
 ·refine O _ (aN [1, 2, 3, 4, 9, 36] rfl rfl ?_); clear O J K E; refine awp_cond rfl ?_; refine rgs fun E K J O => ?_; refine O _ (aN [8] rfl rfl ?_); clear O J K E; refine awp_ret ?_
  exact ⟨_, [], _, [.d (.s (.bool true))], rfl, rfl, rfl, rfl, rfl, PWs.refl _, rfl⟩
 have g2 := of_decide_eq_false h2; refine onB_intro (fun h3 => ?_) (fun h3 => ?_)
 ·refine O _ (aN [1, 2, 3, 4, 9, 36] rfl rfl ?_); clear O J K E; refine awp_cond rfl ?_; refine rgs fun E K J O => ?_; refine O _ (aN [8] rfl rfl ?_); clear O J K E; refine awp_ret ?_
  exact ⟨_, [], _, [.d (.s (.bool true))], rfl, rfl, rfl, rfl, rfl, PWs.refl _, rfl⟩
 have g3 := of_decide_eq_false h3; refine onB_intro (fun h4 => ?_) (fun h4 => ?_)
 ·refine O _ (aN [1, 2, 3, 4, 9, 36] rfl rfl ?_); clear O J K E; refine awp_cond rfl ?_; refine rgs fun E K J O => ?_; refine O _ (aN [8] rfl rfl ?_); clear O J K E; refine awp_ret ?_
  exact ⟨_, [], _, [.d (.s (.bool true))], rfl, rfl, rfl, rfl, rfl, PWs.refl _, rfl⟩
 have g4 := of_decide_eq_false h4; refine O _ (aN [1, 2, 3, 4, 9, 36] rfl rfl ?_); clear O J K E; refine awp_cond2 rfl (onB_intro (fun h5 => ?_) (fun h5 => ?_))
 ·refine rgs fun E K J O => ?_; refine O _ (aN [8] rfl rfl ?_); clear O J K E; refine awp_ret ?_
  exact ⟨_, [], _, [.d (.s (.bool true))], rfl, rfl, rfl, rfl, rfl, PWs.refl _, rfl⟩
 have g5 := of_decide_eq_false h5; exact absurd ⟨by omega, by omega, by omega, by omega, by omega⟩ hbad
theorem fuel_err (p : Pg) (hw : wtPg p ≤ 1000000000) (inp : List Int) (F M : Int) (hlen : inp.length ≤ 40) (hF0 : 0 ≤ F) (hM0 : 0 ≤ M) (hF : F ≤ 2000) (hM : M ≤ 2000) (j : Nat) (hr : Spec Tryz.prog (GV t u) 30 [.d (.agg p.cs), .d (.sl 1 (numsD inp)), .d (num F)] [] (.ret (.tup [.d (.agg zEnd), .d (.s (.iface (t j) (u j)))])) []) : Spec Tryz.prog (GV t u) 7 [.d (.agg p.cs), .d (.sl 1 (numsD inp)), .d (num F), .d (num M)] [] (.ret (.d (.s (.bool true)))) [] := by
 refine spec_of_awp2 TT_ok (N := 95) Tryz.func7 rfl (by rfl) (Nat.le_refl _) rfl ?_; refine rgs fun E K J O => ?_; refine O _ (aN [1, 2, 3, 4] rfl rfl ?_); clear O J K E; refine rgs fun E K J O => ?_; show aCall _ _ _ _ _ _ _; refine aR [] rfl rfl rfl (one_true t u) rfl rfl rfl rfl ?_; refine O _ (aN [1, 2, 3, 4, 9] rfl rfl ?_); clear O J K E; refine awp_seq ?_; refine rgs fun E K J O => ?_; refine onB_intro (fun h1 => ?_) (fun h1 => ?_)
 ·exact absurd (of_decide_eq_true h1) (by rw [nums_l]; omega)
 refine onB_intro (fun h2 => ?_) (fun h2 => ?_)
 ·exact absurd (of_decide_eq_true h2) (by omega)
 refine onB_intro (fun h3 => ?_) (fun h3 => ?_)
 ·exact absurd (of_decide_eq_true h3) (by omega)
 refine onB_intro (fun h4 => ?_) (fun h4 => ?_)
 ·exact absurd (of_decide_eq_true h4) (by omega)
 refine O _ (aN [1, 2, 3, 4, 9, 36] rfl rfl ?_); clear O J K E; refine awp_cond2 rfl (onB_intro (fun h5 => ?_) (fun h5 => ?_))
 ·exact absurd (of_decide_eq_true h5) (by omega)
 refine awp_skip ?_; refine rgs fun E K J O => ?_; show aCall _ _ _ _ _ _ _; refine aR [] rfl rfl rfl (programOf_spec _ p hw) rfl rfl rfl rfl ?_
 show aCall _ _ _ _ _ _ _
 refine aR [] rfl rfl rfl (intsM _ inp (by omega)) rfl rfl rfl rfl ?_
 show aCall _ _ _ _ _ _ _
 refine aR [] rfl rfl rfl hr rfl rfl rfl rfl ?_; refine O _ (aN [1, 2, 3, 4, 10, 11] rfl rfl ?_); clear O J K E; refine awp_seq ?_; refine rgs fun E K J O => ?_; refine O _ (aN [1, 2, 3, 4, 10, 48] rfl rfl ?_); clear O J K E; refine awp_cond rfl ?_; refine rgs fun E K J O => ?_; show aCall _ _ _ _ _ _ _; refine aR [] rfl rfl rfl (noEnd_z _) rfl rfl rfl rfl ?_; refine O _ (aN [8] rfl rfl ?_); clear O J K E; refine awp_ret ?_; exact ⟨_, [], _, [.d (.s (.bool true))], rfl, rfl, rfl, rfl, rfl, PWs.refl _, rfl⟩
theorem fuel_runs (p : Pg) (hw : wtPg p ≤ 1000000000) (inp : List Int) (F M : Int) (hlen : inp.length ≤ 40) (hF0 : 0 ≤ F) (hM0 : 0 ≤ M) (hF : F ≤ 2000) (hM : M ≤ 2000) (k1 k2 : ByteArray) (st1 st2 : Int) (vl1 vl2 : List Int) (ls1 ls2 : List (List Int)) (hr1 : Spec Tryz.prog (GV t u) 30 [.d (.agg p.cs), .d (.sl 1 (numsD inp)), .d (num F)] [] (.ret (.tup [.d (.agg [str k1, num st1, .sl 1 (numsD vl1), .sl 1 (lsD ls1)]), .d (.s .nilIface)])) []) (hr2 : Spec Tryz.prog (GV t u) 30 [.d (.agg p.cs), .d (.sl 1 (numsD inp)), .d (num (IntKind.i64.wrap (F + M)))] [] (.ret (.tup [.d (.agg [str k2, num st2, .sl 1 (numsD vl2), .sl 1 (lsD ls2)]), .d (.s .nilIface)])) []) (z1 : st1 ≤ F) (z2 : st1 ≤ st2) (z3 : k1 = wTired → F = st1) (z4 : k1 ≠ wTired → k2 = k1 ∧ st2 = st1 ∧ vl2 = vl1 ∧ ls2 = ls1) (hvl : vl1.length ≤ 1073741824) (hls : ls1.length ≤ 1073741824) (hl16 : ∀ x, x ∈ ls1 → x.length ≤ 16) : Spec Tryz.prog (GV t u) 7 [.d (.agg p.cs), .d (.sl 1 (numsD inp)), .d (num F), .d (num M)] [] (.ret (.d (.s (.bool true)))) [] := by
 obtain ⟨R, hR⟩ : ∃ R, R = true := ⟨true, rfl⟩; rw [← hR]; refine spec_of_awp2 TT_ok (N := 95) Tryz.func7 rfl (by rfl) (Nat.le_refl _) rfl ?_; refine rgs fun E K J O => ?_; refine O _ (aN [1, 2, 3, 4] rfl rfl ?_); clear O J K E; refine rgs fun E K J O => ?_; show aCall _ _ _ _ _ _ _; refine aR [] rfl rfl rfl (one_true t u) rfl rfl rfl rfl ?_; refine O _ (aN [1, 2, 3, 4, 9] rfl rfl ?_); clear O J K E; refine awp_seq ?_; refine rgs fun E K J O => ?_; refine onB_intro (fun h1 => ?_) (fun h1 => ?_)
 ·exact absurd (of_decide_eq_true h1) (by rw [nums_l]; omega)
 refine onB_intro (fun h2 => ?_) (fun h2 => ?_)
 ·exact absurd (of_decide_eq_true h2) (by omega)
 refine onB_intro (fun h3 => ?_) (fun h3 => ?_)
 ·exact absurd (of_decide_eq_true h3) (by omega)
 refine onB_intro (fun h4 => ?_) (fun h4 => ?_)
 ·exact absurd (of_decide_eq_true h4) (by omega)
 refine O _ (aN [1, 2, 3, 4, 9, 36] rfl rfl ?_); clear O J K E; refine awp_cond2 rfl (onB_intro (fun h5 => ?_) (fun h5 => ?_))
 ·exact absurd (of_decide_eq_true h5) (by omega)
 refine awp_skip ?_; refine rgs fun E K J O => ?_; show aCall _ _ _ _ _ _ _; refine aR [] rfl rfl rfl (programOf_spec _ p hw) rfl rfl rfl rfl ?_
 show aCall _ _ _ _ _ _ _
 refine aR [] rfl rfl rfl (intsM _ inp (by omega)) rfl rfl rfl rfl ?_
 show aCall _ _ _ _ _ _ _
 refine aR [] rfl rfl rfl hr1 rfl rfl rfl rfl ?_; refine O _ (aN [1, 2, 3, 4, 10, 11] rfl rfl ?_); clear O J K E; refine awp_seq ?_; refine rgs fun E K J O => ?_; refine O _ (aN [1, 2, 3, 4, 10, 48] rfl rfl ?_); clear O J K E; refine awp_cond rfl ?_; refine awp_skip ?_; refine rgs fun E K J O => ?_; show aCall _ _ _ _ _ _ _; refine aR [] rfl rfl rfl (programOf_spec _ p hw) rfl rfl rfl rfl ?_
 show aCall _ _ _ _ _ _ _
 refine aR [] rfl rfl rfl (intsM _ inp (by omega)) rfl rfl rfl rfl ?_
 show aCall _ _ _ _ _ _ _
 refine aR [] rfl rfl rfl hr2 rfl rfl rfl rfl ?_; refine O _ (aN [2, 10, 11, 12] rfl rfl ?_); clear O J K E; refine awp_seq ?_; refine rgs fun E K J O => ?_; refine onB_intro (fun h6 => ?_) (fun h6 => ?_)
 ·exact absurd (of_decide_eq_true h6) (by omega)
 refine O _ (aN [2, 10, 12, 76] rfl rfl ?_); clear O J K E; refine awp_cond2 rfl (onB_intro (fun h7 => ?_) (fun h7 => ?_))
 ·exact absurd (of_decide_eq_true h7) (by omega)
 refine awp_skip ?_; refine awp_seq ?_; refine rgs fun E K J O => ?_; refine O _ (aN [2, 10, 12, 79] rfl rfl ?_); clear O J K E; refine awp_cond2 rfl (onB_intro (fun h8 => ?_) (fun h8 => ?_))
 ·obtain rfl := z3 (eqW_eq h8)
  refine rgs fun E K J O => ?_; refine O _ (aN [8] rfl rfl ?_); clear O J K E; refine awp_ret ?_
  obtain rfl : R = (F == F) := by rw [hR]; simp
  exact ⟨_, [], _, [.d (.s (.bool _))], rfl, rfl, rfl, rfl, rfl, PWs.refl _, rfl⟩
 obtain ⟨rfl, rfl, rfl, rfl⟩ := z4 (fun e => by rw [e] at h8; simp [wTired] at h8); refine awp_skip ?_; refine rgs fun E K J O => ?_; show aCall _ _ _ _ _ _ _; refine aR [] rfl rfl rfl (isEnd_same _ _ _ _ _ hvl hls hl16) rfl rfl rfl rfl ?_; refine O _ (aN [8] rfl rfl ?_); clear O J K E; refine awp_ret ?_; subst hR; exact ⟨_, [], _, [.d (.s (.bool true))], rfl, rfl, rfl, rfl, rfl, PWs.refl _, rfl⟩
/-- The law, over pure values. -/
theorem machineFuel_true (n f : Nat) (p : Pg) (hok : okPg n f p = true) (hw : wtPg p ≤ 400000000) (inp : List Int) (F M : Int) : Spec Tryz.prog (GV t u) 7 [.d (.agg p.cs), .d (.sl 1 (numsD inp)), .d (num F), .d (num M)] [] (.ret (.d (.s (.bool true)))) [] := by
 by_cases hb : ¬ (inp.length ≤ 40 ∧ 0 ≤ F ∧ 0 ≤ M ∧ F ≤ 2000 ∧ M ≤ 2000)
 ·exact fuel_out p inp F M hb
 have hb := Decidable.not_not.1 hb; obtain ⟨hlen, hF0, hM0, hF, hM⟩ := hb
 have hw2 : wtPg p ≤ 1000000000 := by omega
 have sw : textF n f p ≠ .out → Spec Tryz.prog (GV t u) 22 [.d (.agg p.cs)] [] (.ret (outT t u (textF n f p))) [] := text_spec t u (itoa_ok t u) n f p; have ht := textF_law' n f p hok (by omega); obtain ⟨vars, arrays, procs, main⟩ := p
 have bad : textF n f ⟨vars, arrays, procs, main⟩ = .bad → Spec Tryz.prog (GV t u) 7 [.d (.agg (Pg.cs ⟨vars, arrays, procs, main⟩)), .d (.sl 1 (numsD inp)), .d (num F), .d (num M)] [] (.ret (.d (.s (.bool true)))) [] := by
  intro e; rw [e] at sw; exact fuel_err _ hw2 inp F M hlen hF0 hM0 hF hM 1 (run_no vars arrays procs main inp F 1 (check_no vars arrays procs main (sw nofun)))
 cases hp : progI ⟨vars, arrays, procs, main⟩ with
 | none =>
  rw [hp] at ht; exact bad ht
 | some y =>
  obtain ⟨s, z⟩ := y; rw [hp] at ht
  cases hz : decide (s.size ≤ 4000) with
  | false =>
   simp only [hz] at ht; exact bad ht
  | true =>
   simp only [hz] at ht; rw [ht] at sw; have hc := check_yes (t := t) (u := u) vars arrays procs main hw s (sw nofun)
   cases hk : checkF vars arrays procs main with
   | some j =>
    rw [hk] at hc; exact fuel_err _ hw2 inp F M hlen hF0 hM0 hF hM j (run_no vars arrays procs main inp F j hc)
   | none =>
    rw [hk] at hc
    by_cases hfar : ∃ n, n ∈ inp ∧ farM n = true
    ·exact fuel_err _ hw2 inp F M hlen hF0 hM0 hF hM 0 (run_far vars arrays procs main inp F hc hlen hF0 (by omega) hfar)
    have hcond : ∀ n, n ∈ inp → farM n = false := fun n hn => by
     cases q : farM n with
     | false => rfl
     | true => exact absurd ⟨n, hn, q⟩ hfar
    have hwf := wf_of hp hk; obtain ⟨k1, S1, m1⟩ := all_some procs F 12010 main ⟨[], arZ arrays, inp, 0⟩ hF0 (by show 3 * (F - 0) + 1 ≤ _; omega); obtain ⟨k2, S2, m2⟩ := all_some procs (F + M) 12010 main ⟨[], arZ arrays, inp, 0⟩ (by show (0 : Int) ≤ F + M; omega) (by show 3 * (F + M - 0) + 1 ≤ _; omega); have r1 := run_ok vars arrays procs main inp F hc hwf hw hlen hF0 (by omega) hcond 12010 k1 S1 m1; have r2 := run_ok vars arrays procs main inp (F + M) hc hwf hw hlen (by omega) (by omega) hcond 12010 k2 S2 m2; obtain ⟨q1, q2, q3, q4⟩ := fuel_law2 procs (show F ≤ F + M by omega) 12010 main _ hF0 m1 m2
    have hlk : LenOk S1.ar := all_ky setA_len m1 (fun q hq => by
     obtain ⟨a, ha, rfl⟩ := List.mem_map.1 hq; have := hwf.size a ha
     show (List.replicate a.size.toNat (0 : Int)).length ≤ 16
     rw [List.length_replicate]
     omega)
    have hwz := hw; simp only [wtPg] at hwz; have hvl := wtV_len vars; have hal := wtA_len arrays; have e : IntKind.i64.wrap (F + M) = F + M := i64_id (by omega) (by omega); simp only [endD, arr_ls] at r1 r2; rw [← e] at r2
    exact fuel_runs _ hw2 inp F M hlen hF0 hM0 hF hM k1 k2 S1.steps S2.steps _ _ _ _ r1 r2 q1 q2 (fun h => (q3 h).symm) (fun h => by
     obtain ⟨h1, h2⟩ := q4 h; subst h2
     exact ⟨h1, rfl, rfl, rfl⟩) (by rw [List.length_map]; omega) (by rw [List.length_map]; omega) (fun x hx => by
      obtain ⟨a, _, rfl⟩ := List.mem_map.1 hx
      exact getA_len hlk)
end
end Go.Abs
end
