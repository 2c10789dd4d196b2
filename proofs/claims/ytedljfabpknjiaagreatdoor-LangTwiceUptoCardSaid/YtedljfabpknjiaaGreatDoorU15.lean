/- Texts of this proof, joined: AbsTD, AbsTE, AbsTF, AbsRH, AbsTG, AbsTH, AbsTL. -/
import Derived.Test.YtedljfabpknjiaaGreatDoorU14
import Derived.Test.YtedljfabpknjiaaGreatDoorU13
import Derived.Test.YtedljfabpknjiaaGreatDoorU12
import Derived.Test.YtedljfabpknjiaaGreatDoorU1
import Derived.WalkKit
import Derived.ProofKit
import Derived.OpenShut
import Derived.Deep.DeepWitnessRowRef
import Derived.WideShapes
section
namespace Go.Abs
open Go Go.Proofs
def tl8 (sep : List UInt8) : List ByteArray → List UInt8
  | [] => []
  | x :: r => sep ++ (bs8 x ++ tl8 sep r)
theorem tl8_tail (sep : List UInt8) : ∀ r : List ByteArray, Lib.joinTail sep (r.map (·.data.toList)) = tl8 sep r
  | [] => rfl
  | x :: r => by
    have := tl8_tail sep r
    simp only [Lib.joinTail] at this
    simp only [Lib.joinTail, List.map_cons, List.flatten_cons, tl8, this, List.append_assoc]
    rfl
theorem join_cons (sep : ByteArray) (x : ByteArray) (r : List ByteArray) : bs8 (joinB (x :: r) sep) = bs8 x ++ tl8 (bs8 sep) r := by
  show Lib.join (x.data.toList :: r.map (·.data.toList)) sep.data.toList = _
  rw [Lib.join_cons, tl8_tail]
  rfl
section
variable {s : ByteArray}
theorem comma_st {ss : List ByteArray} {l : List UInt8} : St1 s (tl8 [44, 32] ss ++ (41 :: l)) ∧ brk (tl8 [44, 32] ss ++ (41 :: l)) := by
  cases ss with
  | nil =>
    refine ⟨fun q hq => ?_, brk_cons (by decide)⟩
    rw [(rem_sign (c := 41) (by decide) (.inl (by decide)) hq).1]
    exact ⟨by kernel_rfl, by kernel_rfl, by kernel_rfl⟩
  | cons x r =>
    refine ⟨fun q hq => ?_, brk_cons (c := 44) (by decide)⟩
    rw [(rem_sign (c := 44) (by decide) (.inl (by decide)) hq).1]
    exact ⟨by kernel_rfl, by kernel_rfl, by kernel_rfl⟩
theorem gets_args_tl : ∀ (L : List Ex) (ss : List ByteArray) (k n : Nat) (acc : List Ex) (p : PS s) (l : List UInt8), listI L = some (ss, k) → 0 < acc.length → Rem s p (tl8 [44, 32] ss ++ (41 :: l)) → Gets (argsL s n acc p) (acc ++ L) l
  | L, ss, k, 0, acc, p, l, _, _, _ => by simp only [argsL]; trivial
  | [], ss, k, n + 1, acc, p, l, h, ha, hp => by
    obtain ⟨rfl, _⟩ := ret_some h
    obtain ⟨hw, hq⟩ := rem_sign (c := 41) (by decide) (.inl (by decide)) hp
    simp only [argsL, hw, eqW_self, Bool.not_true, List.append_nil]
    exact gets_ok hq
  | e :: r, ss, k, n + 1, acc, p, l, h, ha, hp => by
    obtain ⟨t, k1, i1, h1, h2, _⟩ := bd_some h
    obtain ⟨rs, k2, i2, h3, h4, _⟩ := bd_some h2
    obtain ⟨rfl, _⟩ := ret_some h4
    simp only [tl8, List.append_assoc] at hp
    obtain ⟨hw, hq⟩ := rem_sign (c := 44) (by decide) (.inl (by decide)) hp
    have hq := rem_space (c := 32) (by decide) hq
    have q1 : eqW (⟨#[44]⟩ : ByteArray) ⟨#[41]⟩ = false := by kernel_rfl
    simp only [argsL, hw, q1, Bool.not_false]
    rw [decide_eq_true (by omega)]
    refine gets_bind (gets_take hw hq) fun q hq2 => ?_
    have g := gets_term (n := n) (d := 1) (by decide) h1 (comma_st (s := s)).2 (comma_st (s := s)).1 hq2
    refine gets_bind g fun q3 hq3 => ?_
    have := gets_args_tl r rs k2 n (acc ++ [e]) q3 l h3 (by simp) hq3
    rwa [List.append_assoc] at this
theorem gets_args {L : List Ex} {t : ByteArray} {k n : Nat} {p : PS s} {l : List UInt8} (h : listJ L = some (t, k)) (hp : Rem s p (bs8 t ++ (41 :: l))) : Gets (argsL s n [] p) L l := by
  obtain ⟨ss, k1, i1, h1, h2, _⟩ := bd_some h
  obtain ⟨rfl, _⟩ := ret_some h2
  cases n with
  | zero => simp only [argsL]; trivial
  | succ n =>
  cases L with
  | nil =>
    obtain ⟨rfl, _⟩ := ret_some h1
    obtain ⟨hw, hq⟩ := rem_sign (c := 41) (by decide) (.inl (by decide)) hp
    simp only [argsL, hw, eqW_self, Bool.not_true]
    exact gets_ok hq
  | cons e r =>
    obtain ⟨t, k3, i3, h5, h2, _⟩ := bd_some h1
    obtain ⟨rs, k2, i2, h3, h4, _⟩ := bd_some h2
    obtain ⟨rfl, _⟩ := ret_some h4
    rw [join_cons, List.append_assoc] at hp
    have g := fun n => gets_term (n := n) (d := 1) (by decide) h5 (comma_st (s := s)).2 (comma_st (s := s)).1 hp
    have q1 : eqW p.w ⟨#[41]⟩ = false := by
      cases q : eqW p.w ⟨#[41]⟩ with
      | false => rfl
      | true =>
        have g3 := g 3
        have e1 : eqW (⟨#[41]⟩ : ByteArray) ⟨#[45]⟩ = false := by kernel_rfl
        have e2 : eqW (⟨#[41]⟩ : ByteArray) ⟨#[40]⟩ = false := by kernel_rfl
        have e3 : isD (byteAt (⟨#[41]⟩ : ByteArray) 0) = false := by kernel_rfl
        have e4 : isNameF ⟨#[41]⟩ = false := by kernel_rfl
        simp only [termF, productF, factorF, eqW_eq q, e1, e2, e3, Bool.and_false, nameF, e4, R.bind] at g3
        exact g3.elim
    simp only [argsL, q1, Bool.not_false]
    rw [decide_eq_false (by simp)]
    exact gets_bind (g n) fun q3 hq3 => gets_args_tl r rs k2 n [e] q3 l h3 (by simp) hq3
theorem gets_prms_tl : ∀ (L : List ByteArray) (n : Nat) (acc : List ByteArray) (p : PS s) (l : List UInt8), allN L = true → 0 < acc.length → Rem s p (tl8 [44, 32] L ++ (41 :: l)) → Gets (prmL s n acc p) (acc ++ L) l
  | L, 0, acc, p, l, _, _, _ => by simp only [prmL]; trivial
  | [], n + 1, acc, p, l, h, ha, hp => by
    obtain ⟨hw, hq⟩ := rem_sign (c := 41) (by decide) (.inl (by decide)) hp
    simp only [prmL, hw, eqW_self, Bool.not_true, List.append_nil]
    exact gets_ok hq
  | e :: r, n + 1, acc, p, l, h, ha, hp => by
    simp only [allN, List.all_cons, Bool.and_eq_true] at h
    simp only [tl8, List.append_assoc] at hp
    obtain ⟨hw, hq⟩ := rem_sign (c := 44) (by decide) (.inl (by decide)) hp
    have hq := rem_space (c := 32) (by decide) hq
    have q1 : eqW (⟨#[44]⟩ : ByteArray) ⟨#[41]⟩ = false := by kernel_rfl
    simp only [prmL, hw, q1, Bool.not_false]
    rw [decide_eq_true (by omega)]
    refine gets_bind (gets_take hw hq) fun q hq2 => ?_
    refine gets_bind (gets_name h.1 (comma_st (s := s)).2 hq2) fun q3 hq3 => ?_
    have := gets_prms_tl r n (acc ++ [e]) q3 l h.2 (by simp) hq3
    rwa [List.append_assoc] at this
theorem gets_prms {L : List ByteArray} {n : Nat} {p : PS s} {l : List UInt8} (h : allN L = true) (hp : Rem s p (bs8 (joinB L ⟨#[44, 32]⟩) ++ (41 :: l))) : Gets (prmL s n [] p) L l := by
  cases n with
  | zero => simp only [prmL]; trivial
  | succ n =>
  cases L with
  | nil =>
    obtain ⟨hw, hq⟩ := rem_sign (c := 41) (by decide) (.inl (by decide)) hp
    simp only [prmL, hw, eqW_self, Bool.not_true]
    exact gets_ok hq
  | cons e r =>
    simp only [allN, List.all_cons, Bool.and_eq_true] at h
    rw [join_cons, List.append_assoc] at hp
    have hb := (comma_st (s := s) (ss := r) (l := l)).2
    obtain ⟨hw, _⟩ := rem_letters (name_pos h.1) (name_letters h.1) hb hp
    have q1 : eqW p.w ⟨#[41]⟩ = false := by rw [hw]; exact name_ne h.1 (by decide)
    simp only [prmL, q1, Bool.not_false]
    rw [decide_eq_false (by simp)]
    exact gets_bind (gets_name h.1 hb hp) fun q3 hq3 => gets_prms_tl r n [e] q3 l h.2 (by simp) hq3
theorem rel_cases {rel : ByteArray} (h : isRelF rel = true) : rel = ⟨#[60]⟩ ∨ rel = ⟨#[60, 61]⟩ ∨ rel = ⟨#[61, 61]⟩ ∨ rel = ⟨#[33, 61]⟩ ∨ rel = ⟨#[62, 61]⟩ ∨ rel = ⟨#[62]⟩ := by
  unfold isRelF at h
  simp only [Bool.or_eq_true] at h
  rcases h with ((((h | h) | h) | h) | h) | h <;> have := eqW_eq h <;> subst this <;> simp
theorem rem_rel {q : PS s} {rel : ByteArray} {l : List UInt8} (h : isRelF rel = true) (hq : Rem s q (32 :: (bs8 rel ++ (32 :: l)))) : q.w = rel ∧ Rem s (nx s q) l := by
  have hq := rem_space (c := 32) (by decide) hq
  rcases rel_cases h with rfl | rfl | rfl | rfl | rfl | rfl
  · obtain ⟨a, b⟩ := rem_sign (c := 60) (l := 32 :: l) (by decide) (.inr (by simp)) hq
    exact ⟨a, rem_space (by decide) b⟩
  · obtain ⟨a, b⟩ := rem_sign2 (c := 60) (l := 32 :: l) (by decide) (by decide) hq
    exact ⟨a, rem_space (by decide) b⟩
  · obtain ⟨a, b⟩ := rem_sign2 (c := 61) (l := 32 :: l) (by decide) (by decide) hq
    exact ⟨a, rem_space (by decide) b⟩
  · obtain ⟨a, b⟩ := rem_sign2 (c := 33) (l := 32 :: l) (by decide) (by decide) hq
    exact ⟨a, rem_space (by decide) b⟩
  · obtain ⟨a, b⟩ := rem_sign2 (c := 62) (l := 32 :: l) (by decide) (by decide) hq
    exact ⟨a, rem_space (by decide) b⟩
  obtain ⟨a, b⟩ := rem_sign (c := 62) (l := 32 :: l) (by decide) (.inr (by simp)) hq
  exact ⟨a, rem_space (by decide) b⟩
theorem rel_st {rel : ByteArray} (h : isRelF rel = true) : eqW rel ⟨#[91]⟩ = false ∧ (eqW rel ⟨#[42]⟩ || eqW rel ⟨#[47]⟩ || eqW rel ⟨#[37]⟩) = false ∧ (eqW rel ⟨#[43]⟩ || eqW rel ⟨#[45]⟩) = false := by
  rcases rel_cases h with rfl | rfl | rfl | rfl | rfl | rfl <;> exact ⟨by kernel_rfl, by kernel_rfl, by kernel_rfl⟩
/-- What may stand behind a test. -/
def StS (s : ByteArray) (l : List UInt8) : Prop := brk l ∧ St1 s l
theorem gets_test {t : Ts} {b : ByteArray} {k n : Nat} {p : PS s} {l : List UInt8} (h : testI t = some (b, k)) (hl : StS s l) (hp : Rem s p (bs8 b ++ l)) : Gets (testF s n p) t l ∧ ∀ x, isNameF x = false → isD (byteAt x 0) = false → eqW x ⟨#[45]⟩ = false → eqW x ⟨#[40]⟩ = false → eqW p.w x = false := by
  obtain ⟨hr, h⟩ := grd_some h
  obtain ⟨t1, k1, i1, h1, h2, _⟩ := bd_some h
  obtain ⟨t2, k2, i2, h3, h4, _⟩ := bd_some h2
  obtain ⟨rfl, _⟩ := ret_some h4
  simp only [bs8_app, List.append_assoc] at hp
  have hp : Rem s p (bs8 t1 ++ (32 :: (bs8 t.rel ++ (32 :: (bs8 t2 ++ l))))) := hp
  have hst : St1 s (32 :: (bs8 t.rel ++ (32 :: (bs8 t2 ++ l)))) := fun q hq => by rw [(rem_rel hr hq).1]; exact rel_st hr
  have g := fun n => gets_term (n := n) (d := 1) (by decide) h1 (brk_sp _) hst hp
  refine ⟨?_, fun x x1 x2 x3 x4 => ?_⟩
  · unfold testF
    refine gets_bind (g n) fun q hq => ?_
    obtain ⟨a, b⟩ := rem_rel hr hq
    rw [a, hr]
    refine gets_bind (gets_term (n := n) (d := 1) (by decide) h3 hl.1 hl.2 b) fun q2 hq2 => gets_ok hq2
  cases q : eqW p.w x with
  | false => rfl
  | true =>
    have g3 := g 3
    simp only [termF, productF, factorF, eqW_eq q, x3, x4, x2, Bool.and_false, nameF, x1, R.bind] at g3
    exact g3.elim
/-- A word of letters between spaces. -/
theorem rem_kw {q : PS s} {w : ByteArray} {l : List UInt8} (h0 : 0 < w.size) (hw : ∀ c, c ∈ bs8 w → isL c.toNat = true) (hq : Rem s q (32 :: (bs8 w ++ (32 :: l)))) : q.w = w ∧ Rem s (nx s q) l := by
  obtain ⟨a, b⟩ := rem_letters h0 hw (brk_sp _) (rem_space (by decide) hq)
  exact ⟨a, rem_space (by decide) b⟩
theorem gets_and : ∀ (L : List Ts) (ss : List ByteArray) (k n : Nat) (acc : List Ts) (p : PS s) (l : List UInt8), andI L = some (ss, k) → StS s l → (∀ q, Rem s q l → eqW q.w ⟨#[97, 110, 100]⟩ = false) → Rem s p (tl8 [32, 97, 110, 100, 32] ss ++ l) → Gets (andL s n acc p) (acc ++ L) l
  | L, ss, k, 0, acc, p, l, _, _, _, _ => by simp only [andL]; trivial
  | [], ss, k, n + 1, acc, p, l, h, hl, ha, hp => by
    obtain ⟨rfl, _⟩ := ret_some h
    simp only [andL, ha p hp, List.append_nil]
    exact gets_ok hp
  | e :: r, ss, k, n + 1, acc, p, l, h, hl, ha, hp => by
    obtain ⟨t, k1, i1, h1, h2, _⟩ := bd_some h
    obtain ⟨rs, k2, i2, h3, h4, _⟩ := bd_some h2
    obtain ⟨rfl, _⟩ := ret_some h4
    simp only [tl8, List.append_assoc] at hp
    obtain ⟨hw, hq⟩ := rem_kw (w := ⟨#[97, 110, 100]⟩) (by decide) (by decide) hp
    simp only [andL, hw, eqW_self]
    have hst : StS s (tl8 [32, 97, 110, 100, 32] rs ++ l) := by
      cases rs with
      | nil => exact hl
      | cons x rs =>
        refine ⟨brk_sp _, fun q hq => ?_⟩
        simp only [tl8, List.append_assoc] at hq
        rw [(rem_kw (w := ⟨#[97, 110, 100]⟩) (by decide) (by decide) hq).1]
        exact ⟨by kernel_rfl, by kernel_rfl, by kernel_rfl⟩
    refine gets_bind (gets_test (n := n) h1 hst hq).1 fun q3 hq3 => ?_
    have := gets_and r rs k2 n (acc ++ [e]) q3 l h3 hl ha hq3
    rwa [List.append_assoc] at this
/-- What may stand behind a row. -/
def StW (s : ByteArray) (l : List UInt8) : Prop := StS s l ∧ ∀ q : PS s, Rem s q l → eqW q.w ⟨#[97, 110, 100]⟩ = false
theorem gets_row {L : List Ts} {t : ByteArray} {k n : Nat} {p : PS s} {l : List UInt8} (h : rowI L = some (t, k)) (hl : StW s l) (hp : Rem s p (bs8 t ++ l)) : Gets (rowF s n p) L l ∧ eqW p.w ⟨#[102, 97, 108, 115, 101]⟩ = false := by
  obtain ⟨ss, k1, i1, h1, h2, _⟩ := bd_some h
  obtain ⟨rfl, _⟩ := ret_some h2
  cases L with
  | nil =>
    obtain ⟨rfl, _⟩ := ret_some h1
    have hp : Rem s p (bs8 (⟨#[116, 114, 117, 101]⟩ : ByteArray) ++ l) := by
      have := join_cons (⟨#[32, 97, 110, 100, 32]⟩ : ByteArray) ⟨#[116, 114, 117, 101]⟩ []
      simp only [nz] at hp
      rw [this] at hp
      simpa [tl8] using hp
    obtain ⟨hw, hq⟩ := rem_letters (w := ⟨#[116, 114, 117, 101]⟩) (by decide) (by decide) hl.1.1 hp
    refine ⟨?_, by rw [hw]; kernel_rfl⟩
    unfold rowF
    rw [hw, eqW_self]
    exact gets_ok hq
  | cons e r =>
    obtain ⟨t, k3, i3, h5, h2, _⟩ := bd_some h1
    obtain ⟨rs, k2, i2, h3, h4, _⟩ := bd_some h2
    obtain ⟨rfl, _⟩ := ret_some h4
    simp only [nz] at hp
    rw [join_cons, List.append_assoc] at hp
    have hst : StS s (tl8 [32, 97, 110, 100, 32] rs ++ l) := by
      cases rs with
      | nil => exact hl.1
      | cons x rs =>
        refine ⟨brk_sp _, fun q hq => ?_⟩
        simp only [tl8, List.append_assoc] at hq
        rw [(rem_kw (w := ⟨#[97, 110, 100]⟩) (by decide) (by decide) hq).1]
        exact ⟨by kernel_rfl, by kernel_rfl, by kernel_rfl⟩
    obtain ⟨g, gx⟩ := gets_test (n := n) h5 hst hp
    refine ⟨?_, gx _ (by kernel_rfl) (by kernel_rfl) (by kernel_rfl) (by kernel_rfl)⟩
    unfold rowF
    rw [gx ⟨#[116, 114, 117, 101]⟩ (by kernel_rfl) (by kernel_rfl) (by kernel_rfl) (by kernel_rfl)]
    exact gets_bind g fun q3 hq3 => gets_and r rs k2 n [e] q3 l h3 hl.1 hl.2 hq3
/-- What may stand behind a condition. -/
def StC (s : ByteArray) (l : List UInt8) : Prop := StW s l ∧ ∀ q : PS s, Rem s q l → eqW q.w ⟨#[111, 114]⟩ = false
theorem or_st {rs : List ByteArray} {l : List UInt8} (hl : StC s l) : StW s (tl8 [32, 111, 114, 32] rs ++ l) := by
  cases rs with
  | nil => exact hl.1
  | cons x rs =>
    have hq' : ∀ q : PS s, Rem s q (tl8 [32, 111, 114, 32] (x :: rs) ++ l) → q.w = ⟨#[111, 114]⟩ := fun q hq => by
      simp only [tl8, List.append_assoc] at hq
      exact (rem_kw (w := ⟨#[111, 114]⟩) (by decide) (by decide) hq).1
    refine ⟨⟨brk_sp _, fun q hq => ?_⟩, fun q hq => ?_⟩
    · rw [hq' q hq]
      exact ⟨by kernel_rfl, by kernel_rfl, by kernel_rfl⟩
    rw [hq' q hq]
    kernel_rfl
theorem gets_or : ∀ (r : List (List Ts)) (e : List Ts) (t : ByteArray) (rs : List ByteArray) (k1 k2 n : Nat) (acc : List (List Ts)) (p : PS s) (l : List UInt8), rowI e = some (t, k1) → orI r = some (rs, k2) → StC s l → Rem s p (bs8 t ++ (tl8 [32, 111, 114, 32] rs ++ l)) → Gets (condL s n acc p) (acc ++ e :: r) l
  | r, e, t, rs, k1, k2, 0, acc, p, l, _, _, _, _ => by simp only [condL]; trivial
  | [], e, t, rs, k1, k2, n + 1, acc, p, l, h1, h2, hl, hp => by
    simp only [condL]
    refine gets_bind (gets_row (n := n) h1 (or_st hl) hp).1 fun q hq => ?_
    obtain ⟨rfl, _⟩ := ret_some h2
    have hq : Rem s q l := hq
    rw [hl.2 q hq]
    exact gets_ok hq
  | e2 :: r, e, t, rs, k1, k2, n + 1, acc, p, l, h1, h2, hl, hp => by
    obtain ⟨t2, k3, i3, h5, h6, _⟩ := bd_some h2
    obtain ⟨rs2, k4, i4, h7, h8, _⟩ := bd_some h6
    obtain ⟨rfl, _⟩ := ret_some h8
    simp only [condL]
    refine gets_bind (gets_row (n := n) h1 (or_st hl) hp).1 fun q hq => ?_
    simp only [tl8, List.append_assoc] at hq
    obtain ⟨hw, hq2⟩ := rem_kw (w := ⟨#[111, 114]⟩) (by decide) (by decide) hq
    rw [hw, eqW_self]
    have := gets_or r e2 t2 rs2 k3 k4 n (acc ++ [e]) (nx s q) l h5 h7 hl hq2
    rwa [List.append_assoc] at this
/-- A condition is read as it is written. -/
theorem gets_cond {c : List (List Ts)} {t : ByteArray} {k n : Nat} {p : PS s} {l : List UInt8} (h : condI c = some (t, k)) (hl : StC s l) (hp : Rem s p (bs8 t ++ l)) : Gets (condF s n p) c l := by
  unfold condI at h
  cases c with
  | nil =>
    obtain ⟨rfl, _⟩ := ret_some h
    obtain ⟨hw, hq⟩ := rem_letters (by decide) (by decide) hl.1.1.1 hp
    unfold condF
    rw [hw, eqW_self]
    exact gets_ok hq
  | cons r c =>
    obtain ⟨ss, k1, i1, h1, h2, _⟩ := bd_some h
    obtain ⟨rfl, _⟩ := ret_some h2
    obtain ⟨t, k3, i3, h5, h2, _⟩ := bd_some h1
    obtain ⟨rs, k2, i2, h3, h4, _⟩ := bd_some h2
    obtain ⟨rfl, _⟩ := ret_some h4
    rw [join_cons, List.append_assoc] at hp
    unfold condF
    rw [(gets_row (n := n) h5 (or_st hl) hp).2]
    exact gets_or c r t rs k3 k2 n [] p l h5 h3 hl hp
end
end Go.Abs
end
section
namespace Go.Abs
open Go Go.Proofs
theorem bare_some {wn wp wa wc wb we : Bool} {kind name proc : ByteArray} {args : List Ex} {cond : List (List Ts)} {body els : List Sm} (h : bareF wn wp wa wc wb we (.mk kind name proc args cond body els) = true) : (wn = false → name = ⟨#[]⟩) ∧ (wp = false → proc = ⟨#[]⟩) ∧ (wa = false → args = []) ∧ (wc = false → cond = []) ∧ (wb = false → body = []) ∧ (we = false → els = []) := by
  simp only [bareF, Bool.and_eq_true, Bool.or_eq_true] at h
  obtain ⟨⟨⟨⟨⟨h1, h2⟩, h3⟩, h4⟩, h5⟩, h6⟩ := h
  refine ⟨fun q => ?_, fun q => ?_, fun q => ?_, fun q => ?_, fun q => ?_, fun q => ?_⟩
  · rcases h1 with h | h
    · exact eqW_eq h
    rw [q] at h; cases h
  · rcases h2 with h | h
    · exact eqW_eq h
    rw [q] at h; cases h
  · rcases h3 with h | h
    · have := eq_of_beq h
      rw [exs_length] at this
      exact List.eq_nil_of_length_eq_zero (by omega)
    rw [q] at h; cases h
  · rcases h4 with h | h
    · have := eq_of_beq h
      rw [cnd_length] at this
      exact List.eq_nil_of_length_eq_zero (by omega)
    rw [q] at h; cases h
  · rcases h5 with h | h
    · have := eq_of_beq h
      rw [sms_length] at this
      exact List.eq_nil_of_length_eq_zero (by omega)
    rw [q] at h; cases h
  rcases h6 with h | h
  · have := eq_of_beq h
    rw [sms_length] at this
    exact List.eq_nil_of_length_eq_zero (by omega)
  rw [q] at h; cases h
theorem list_one {x : Ex} {t : ByteArray} {k : Nat} (h : listJ [x] = some (t, k)) : ∃ k1, exprI x 1 1 = some (t, k1) := by
  obtain ⟨ss, k1, i1, h1, h2, _⟩ := bd_some h
  obtain ⟨rfl, _⟩ := ret_some h2
  obtain ⟨t, k3, i3, h5, h2, _⟩ := bd_some h1
  obtain ⟨rs, k2, i2, h3, h4, _⟩ := bd_some h2
  obtain ⟨rfl, _⟩ := ret_some h4
  obtain ⟨rfl, _⟩ := ret_some h3
  have e : joinB [t] ⟨#[44, 32]⟩ = t := bs8_eq (by rw [join_cons]; simp [tl8])
  rw [e]
  exact ⟨k3, h5⟩
/-- What a statement's text says of it. -/
theorem stmt_some {kind name proc : ByteArray} {args : List Ex} {cond : List (List Ts)} {body els : List Sm} {k : Nat} {t : ByteArray} {j : Nat} (h : stmtI (.mk kind name proc args cond body els) k = some (t, j)) :
    (kind = ⟨#[115, 101, 116]⟩ ∧ proc = ⟨#[]⟩ ∧ cond = [] ∧ body = [] ∧ els = [] ∧ isNameF name = true ∧ ∃ x t1 k1, args = [x] ∧ exprI x 1 1 = some (t1, k1) ∧ t = lnI k (((name ++ ⟨#[32, 61, 32]⟩) ++ t1) ++ ⟨#[59]⟩)) ∨
    (kind = ⟨#[112, 117, 116]⟩ ∧ proc = ⟨#[]⟩ ∧ cond = [] ∧ body = [] ∧ els = [] ∧ isNameF name = true ∧ ∃ x y t1 k1 t2 k2, args = [x, y] ∧ exprI x 1 1 = some (t1, k1) ∧ exprI y 1 1 = some (t2, k2) ∧ t = lnI k (((((name ++ ⟨#[91]⟩) ++ t1) ++ ⟨#[93, 32, 61, 32]⟩) ++ t2) ++ ⟨#[59]⟩)) ∨
    (kind = ⟨#[99, 97, 108, 108]⟩ ∧ cond = [] ∧ body = [] ∧ els = [] ∧ isNameF name = true ∧ isNameF proc = true ∧ ∃ t1 k1, listJ args = some (t1, k1) ∧ t = lnI k (((((name ++ ⟨#[32, 61, 32, 99, 97, 108, 108, 32]⟩) ++ proc) ++ ⟨#[40]⟩) ++ t1) ++ ⟨#[41, 59]⟩)) ∨
    (kind = ⟨#[105, 102]⟩ ∧ name = ⟨#[]⟩ ∧ proc = ⟨#[]⟩ ∧ args = [] ∧ ∃ c k1 b k2 r, condI cond = some (c, k1) ∧ blockI body (k + 1) = some (b, k2) ∧ t = lnI k ((⟨#[105, 102, 32]⟩ ++ c) ++ ⟨#[32, 123]⟩) ++ (b ++ r) ∧ ((els = [] ∧ r = lnI k ⟨#[125]⟩) ∨ ∃ e k3, blockI els (k + 1) = some (e, k3) ∧ r = lnI k ⟨#[125, 32, 101, 108, 115, 101, 32, 123]⟩ ++ (e ++ lnI k ⟨#[125]⟩))) ∨
    (kind = ⟨#[119, 104, 105, 108, 101]⟩ ∧ name = ⟨#[]⟩ ∧ proc = ⟨#[]⟩ ∧ args = [] ∧ els = [] ∧ ∃ c k1 b k2, condI cond = some (c, k1) ∧ blockI body (k + 1) = some (b, k2) ∧ t = lnI k ((⟨#[119, 104, 105, 108, 101, 32]⟩ ++ c) ++ ⟨#[32, 123]⟩) ++ (b ++ lnI k ⟨#[125]⟩)) ∨
    ((kind = ⟨#[97, 115, 115, 101, 114, 116]⟩ ∨ kind = ⟨#[97, 115, 115, 117, 109, 101]⟩) ∧ name = ⟨#[]⟩ ∧ proc = ⟨#[]⟩ ∧ args = [] ∧ body = [] ∧ els = [] ∧ ∃ c k1, condI cond = some (c, k1) ∧ t = lnI k (((kind ++ ⟨#[32]⟩) ++ c) ++ ⟨#[59]⟩)) ∨
    (kind = ⟨#[114, 101, 97, 100]⟩ ∧ proc = ⟨#[]⟩ ∧ args = [] ∧ cond = [] ∧ body = [] ∧ els = [] ∧ isNameF name = true ∧ t = lnI k ((⟨#[114, 101, 97, 100, 32]⟩ ++ name) ++ ⟨#[59]⟩)) := by
  have hlen : ∀ l : List Ex, ∀ m : Nat, (((exs l).length : Int) == (m : Int)) = true → l.length = m := by
    intro l m h
    have := eq_of_beq h
    rw [exs_length] at this
    omega
  unfold stmtI at h
  split at h
  · rename_i h1
    obtain ⟨g1, h⟩ := grd_some h
    obtain ⟨g2, h⟩ := grd_some h
    rw [Bool.and_eq_true] at g1
    obtain ⟨b1, b2, b3, b4, b5, b6⟩ := bare_some g1.1
    obtain ⟨x, rfl⟩ := List.length_eq_one_iff.1 (hlen args 1 g1.2)
    obtain ⟨t1, k1, i1, h2, h3, _⟩ := bd_some h
    obtain ⟨rfl, _⟩ := ret_some h3
    obtain ⟨k2, h4⟩ := list_one h2
    exact .inl ⟨eqW_eq h1, b2 rfl, b4 rfl, b5 rfl, b6 rfl, g2, x, t1, k2, rfl, h4, rfl⟩
  split at h
  · rename_i h1
    obtain ⟨g1, h⟩ := grd_some h
    obtain ⟨g2, h⟩ := grd_some h
    rw [Bool.and_eq_true] at g1
    obtain ⟨b1, b2, b3, b4, b5, b6⟩ := bare_some g1.1
    split at h
    · rename_i x y _ _
      obtain ⟨t1, k1, i1, h2, h3, _⟩ := bd_some h
      obtain ⟨t2, k2, i2, h4, h5, _⟩ := bd_some h3
      obtain ⟨rfl, _⟩ := ret_some h5
      exact .inr (.inl ⟨eqW_eq h1, b2 rfl, b4 rfl, b5 rfl, b6 rfl, g2, x, y, t1, k1, t2, k2, rfl, h2, h4, rfl⟩)
    cases h
  split at h
  · rename_i h1
    obtain ⟨g1, h⟩ := grd_some h
    obtain ⟨g2, h⟩ := grd_some h
    obtain ⟨g3, h⟩ := grd_some h
    obtain ⟨b1, b2, b3, b4, b5, b6⟩ := bare_some g1
    obtain ⟨t1, k1, i1, h2, h3, _⟩ := bd_some h
    obtain ⟨rfl, _⟩ := ret_some h3
    exact .inr (.inr (.inl ⟨eqW_eq h1, b4 rfl, b5 rfl, b6 rfl, g2, g3, t1, k1, h2, rfl⟩))
  split at h
  · rename_i h1
    obtain ⟨g1, h⟩ := grd_some h
    obtain ⟨b1, b2, b3, b4, b5, b6⟩ := bare_some g1
    obtain ⟨c, k1, i1, h2, h3, _⟩ := bd_some h
    obtain ⟨a1, a2, k2, i2, h4, h5, rfl, _⟩ := sq_some h3
    obtain ⟨rfl, _⟩ := ret_some h4
    obtain ⟨b, r, k3, i3, h6, h7, rfl, _⟩ := sq_some h5
    refine .inr (.inr (.inr (.inl ⟨eqW_eq h1, b1 rfl, b2 rfl, b3 rfl, c, k1, b, k3, r, h2, h6, rfl, ?_⟩)))
    split at h7
    · obtain ⟨a3, a4, k4, i4, h8, h9, rfl, _⟩ := sq_some h7
      obtain ⟨rfl, _⟩ := ret_some h8
      obtain ⟨e, a5, k5, i5, h10, h11, rfl, _⟩ := sq_some h9
      obtain ⟨rfl, _⟩ := ret_some h11
      exact .inr ⟨e, k5, h10, rfl⟩
    rename_i h8
    obtain ⟨rfl, _⟩ := ret_some h7
    have := of_decide_eq_false h8
    rw [sms_length] at this
    exact .inl ⟨List.eq_nil_of_length_eq_zero (by omega), rfl⟩
  split at h
  · rename_i h1
    obtain ⟨g1, h⟩ := grd_some h
    obtain ⟨b1, b2, b3, b4, b5, b6⟩ := bare_some g1
    obtain ⟨c, k1, i1, h2, h3, _⟩ := bd_some h
    obtain ⟨a1, a2, k2, i2, h4, h5, rfl, _⟩ := sq_some h3
    obtain ⟨rfl, _⟩ := ret_some h4
    obtain ⟨b, r, k3, i3, h6, h7, rfl, _⟩ := sq_some h5
    obtain ⟨rfl, _⟩ := ret_some h7
    exact .inr (.inr (.inr (.inr (.inl ⟨eqW_eq h1, b1 rfl, b2 rfl, b3 rfl, b6 rfl, c, k1, b, k3, h2, h6, rfl⟩))))
  split at h
  · rename_i h1
    obtain ⟨g1, h⟩ := grd_some h
    obtain ⟨b1, b2, b3, b4, b5, b6⟩ := bare_some g1
    obtain ⟨c, k1, i1, h2, h3, _⟩ := bd_some h
    obtain ⟨rfl, _⟩ := ret_some h3
    rw [Bool.or_eq_true] at h1
    refine .inr (.inr (.inr (.inr (.inr (.inl ⟨?_, b1 rfl, b2 rfl, b3 rfl, b5 rfl, b6 rfl, c, k1, h2, rfl⟩)))))
    rcases h1 with h1 | h1
    · exact .inl (eqW_eq h1)
    exact .inr (eqW_eq h1)
  split at h
  · rename_i h1
    obtain ⟨g1, h⟩ := grd_some h
    obtain ⟨g2, h⟩ := grd_some h
    obtain ⟨b1, b2, b3, b4, b5, b6⟩ := bare_some g1
    obtain ⟨rfl, _⟩ := ret_some h
    exact .inr (.inr (.inr (.inr (.inr (.inr ⟨eqW_eq h1, b2 rfl, b3 rfl, b4 rfl, b5 rfl, b6 rfl, g2, rfl⟩)))))
  cases h
theorem indent_sp (k : Nat) : ∀ c, c ∈ bs8 (indent k) → isSp c.toNat = true := by
  have : ∀ c, c ∈ Lib.repeatL (⟨#[32, 32]⟩ : ByteArray).data.toList k → isSp c.toNat = true := by
    induction k with
    | zero => intro c h; simp [Lib.repeatL] at h
    | succ k ih =>
      intro c h
      simp only [Lib.repeatL, List.mem_append] at h ih
      rcases h with h | h
      · simp at h
        subst h
        decide
      exact ih c h
  exact this
section
variable {s : ByteArray}
theorem rem_ln {p : PS s} {k : Nat} {x : ByteArray} {l : List UInt8} (h : Rem s p (bs8 (lnI k x) ++ l)) : Rem s p (bs8 x ++ (10 :: l)) := by
  simp only [lnI, bs8_app, List.append_assoc] at h
  exact rem_spaces (indent_sp k) h
/-- A word of letters, then a space. -/
theorem rem_kw0 {q : PS s} {w : ByteArray} {l : List UInt8} (h0 : 0 < w.size) (hw : ∀ c, c ∈ bs8 w → isL c.toNat = true) (hq : Rem s q (bs8 w ++ (32 :: l))) : q.w = w ∧ Rem s (nx s q) l := by
  obtain ⟨a, b⟩ := rem_letters h0 hw (brk_sp _) hq
  exact ⟨a, rem_space (by decide) b⟩
/-- The first word of a statement. -/
theorem stmt_head {st : Sm} {k : Nat} {t : ByteArray} {j : Nat} {p : PS s} {l : List UInt8} (h : stmtI st k = some (t, j)) (hp : Rem s p (bs8 t ++ l)) : eqW p.w ⟨#[125]⟩ = false ∧ eqW p.w ⟨#[114, 101, 116, 117, 114, 110]⟩ = false ∧ eqW p.w ⟨#[101, 108, 115, 101]⟩ = false := by
  have nm : ∀ m : ByteArray, isNameF m = true → eqW m ⟨#[125]⟩ = false ∧ eqW m ⟨#[114, 101, 116, 117, 114, 110]⟩ = false ∧ eqW m ⟨#[101, 108, 115, 101]⟩ = false := fun m hm => ⟨name_ne hm (by decide), name_res hm (by kernel_rfl), name_res hm (by kernel_rfl)⟩
  obtain ⟨kind, name, proc, args, cond, body, els⟩ := st
  rcases stmt_some h with ⟨rfl, rfl, rfl, rfl, rfl, hm, x, t1, k1, rfl, h1, rfl⟩ | ⟨rfl, rfl, rfl, rfl, rfl, hm, x, y, t1, k1, t2, k2, rfl, h1, h2, rfl⟩ | ⟨rfl, rfl, rfl, rfl, hm, hm2, t1, k1, h1, rfl⟩ | ⟨rfl, rfl, rfl, rfl, c, k1, b, k2, r, h1, h2, rfl, h3⟩ | ⟨rfl, rfl, rfl, rfl, rfl, c, k1, b, k2, h1, h2, rfl⟩ | ⟨rfl | rfl, rfl, rfl, rfl, rfl, rfl, c, k1, h1, rfl⟩ | ⟨rfl, rfl, rfl, rfl, rfl, rfl, hm, rfl⟩
  · have hp := rem_ln hp
    simp only [bs8_app, List.append_assoc] at hp
    rw [(rem_letters (name_pos hm) (name_letters hm) (brk_sp _) hp).1]
    exact nm _ hm
  · have hp := rem_ln hp
    simp only [bs8_app, List.append_assoc] at hp
    rw [(rem_letters (name_pos hm) (name_letters hm) (brk_cons (c := 91) (by decide)) hp).1]
    exact nm _ hm
  · have hp := rem_ln hp
    simp only [bs8_app, List.append_assoc] at hp
    rw [(rem_letters (name_pos hm) (name_letters hm) (brk_sp _) hp).1]
    exact nm _ hm
  · rw [bs8_app, List.append_assoc] at hp
    have hp := rem_ln hp
    simp only [bs8_app, List.append_assoc] at hp
    rw [(rem_kw0 (w := ⟨#[105, 102]⟩) (by decide) (by decide) hp).1]
    exact ⟨by kernel_rfl, by kernel_rfl, by kernel_rfl⟩
  · rw [bs8_app, List.append_assoc] at hp
    have hp := rem_ln hp
    simp only [bs8_app, List.append_assoc] at hp
    rw [(rem_kw0 (w := ⟨#[119, 104, 105, 108, 101]⟩) (by decide) (by decide) hp).1]
    exact ⟨by kernel_rfl, by kernel_rfl, by kernel_rfl⟩
  · have hp := rem_ln hp
    simp only [bs8_app, List.append_assoc] at hp
    rw [(rem_kw0 (w := ⟨#[97, 115, 115, 101, 114, 116]⟩) (by decide) (by decide) hp).1]
    exact ⟨by kernel_rfl, by kernel_rfl, by kernel_rfl⟩
  · have hp := rem_ln hp
    simp only [bs8_app, List.append_assoc] at hp
    rw [(rem_kw0 (w := ⟨#[97, 115, 115, 117, 109, 101]⟩) (by decide) (by decide) hp).1]
    exact ⟨by kernel_rfl, by kernel_rfl, by kernel_rfl⟩
  have hp := rem_ln hp
  simp only [bs8_app, List.append_assoc] at hp
  rw [(rem_kw0 (w := ⟨#[114, 101, 97, 100]⟩) (by decide) (by decide) hp).1]
  exact ⟨by kernel_rfl, by kernel_rfl, by kernel_rfl⟩
/-- No 'else' stands first. -/
def NoE (s : ByteArray) (l : List UInt8) : Prop := ∀ q : PS s, Rem s q l → eqW q.w ⟨#[101, 108, 115, 101]⟩ = false
def StmtRd (s : ByteArray) (n : Nat) : Prop := ∀ (st : Sm) (k : Nat) (t : ByteArray) (j : Nat) (p : PS s) (l : List UInt8), k ≤ 12 → stmtI st k = some (t, j) → NoE s l → Rem s p (bs8 t ++ l) → Gets (stmtF s n k p) st l
def LoopRd (s : ByteArray) (n : Nat) : Prop := ∀ (L : List Sm) (k : Nat) (t : ByteArray) (j : Nat) (acc : List Sm) (p : PS s) (l : List UInt8), blockI L k = some (t, j) → (∀ q : PS s, Rem s q l → q.w = ⟨#[125]⟩ ∨ q.w = ⟨#[114, 101, 116, 117, 114, 110]⟩) → Rem s p (bs8 t ++ l) → Gets (stmtsL s n k acc p) (acc ++ L) l
def BlockRd (s : ByteArray) (n : Nat) : Prop := ∀ (L : List Sm) (k i : Nat) (t : ByteArray) (j : Nat) (p : PS s) (l : List UInt8), blockI L k = some (t, j) → Rem s p (123 :: 10 :: (bs8 t ++ (bs8 (indent i) ++ (125 :: l)))) → Gets (blockF s n k p) L l
theorem block_rd {n : Nat} (ih : LoopRd s n) : BlockRd s (n + 1) := by
  intro L k i t j p l h hp
  simp only [blockF]
  refine gets_bind (take_sign (c := 123) (by decide) (.inl (by decide)) hp) fun q hq => ?_
  have hq := rem_space (c := 10) (by decide) hq
  refine gets_bind (ih L k t j [] q _ h (fun q2 hq2 => ?_) hq) fun q2 hq2 => ?_
  · exact .inl (rem_sign (c := 125) (by decide) (.inl (by decide)) (rem_spaces (indent_sp i) hq2)).1
  exact gets_bind (take_sign (c := 125) (by decide) (.inl (by decide)) (rem_spaces (indent_sp i) hq2)) fun q3 hq3 => gets_ok hq3
theorem loop_rd {n : Nat} (ih : LoopRd s n) (ih2 : StmtRd s n) : LoopRd s (n + 1) := by
  intro L k t j acc p l h hl hp
  cases L with
  | nil =>
    unfold blockI at h
    obtain ⟨rfl, _⟩ := ret_some h
    have hp : Rem s p l := hp
    have : (!eqW p.w ⟨#[125]⟩ && !eqW p.w ⟨#[114, 101, 116, 117, 114, 110]⟩) = false := by
      rcases hl p hp with q | q
      · rw [q, eqW_self]; rfl
      rw [q, eqW_self]; exact Bool.and_false _
    simp only [stmtsL, this, List.append_nil]
    exact gets_ok hp
  | cons st r =>
    unfold blockI at h
    cases hk : decide ((k : Int) ≤ 12) with
    | false => rw [hk] at h; cases h
    | true =>
      rw [hk] at h
      have hk12 : k ≤ 12 := by have := of_decide_eq_true hk; omega
      obtain ⟨_, _, _, _, h, _⟩ := bd_some h
      obtain ⟨t1, t2, k1, k2, h1, h2, rfl, _⟩ := sq_some h
      rw [bs8_app, List.append_assoc] at hp
      obtain ⟨e1, e2, e3⟩ := stmt_head h1 hp
      have hd : decide ((k : Int) > 12) = false := decide_eq_false (by omega)
      simp only [stmtsL, e1, e2, hd, Bool.not_false, Bool.and_self]
      have hno : NoE s (bs8 t2 ++ l) := by
        intro q hq
        cases r with
        | nil =>
          unfold blockI at h2
          obtain ⟨rfl, _⟩ := ret_some h2
          have hq : Rem s q l := hq
          show eqW q.w ⟨#[101, 108, 115, 101]⟩ = false
          rcases hl q hq with e | e
          · rw [e]; kernel_rfl
          rw [e]; kernel_rfl
        | cons st2 r =>
          unfold blockI at h2
          rw [hk] at h2
          obtain ⟨_, _, _, _, h2, _⟩ := bd_some h2
          obtain ⟨t3, t4, k3, k4, h3, h4, rfl, _⟩ := sq_some h2
          rw [bs8_app, List.append_assoc] at hq
          exact (stmt_head h3 hq).2.2
      refine gets_bind (ih2 st k t1 k1 p _ hk12 h1 hno hp) fun q hq => ?_
      have := ih r k t2 k2 (acc ++ [st]) q l h2 hl hq
      rwa [List.append_assoc] at this
theorem brace_st (l : List UInt8) : StC s (32 :: 123 :: l) := by
  have hw : ∀ q : PS s, Rem s q (32 :: 123 :: l) → q.w = ⟨#[123]⟩ := fun q hq => (rem_sign (c := 123) (by decide) (.inl (by decide)) (rem_space (c := 32) (by decide) hq)).1
  refine ⟨⟨⟨brk_sp _, fun q hq => ?_⟩, fun q hq => ?_⟩, fun q hq => ?_⟩
  · rw [hw q hq]
    exact ⟨by kernel_rfl, by kernel_rfl, by kernel_rfl⟩
  · rw [hw q hq]
    kernel_rfl
  rw [hw q hq]
  kernel_rfl
theorem semi_st (l : List UInt8) : StC s (59 :: l) := by
  have hw : ∀ q : PS s, Rem s q (59 :: l) → q.w = ⟨#[59]⟩ := fun q hq => (rem_sign (c := 59) (by decide) (.inl (by decide)) hq).1
  refine ⟨⟨⟨brk_cons (by decide), fun q hq => ?_⟩, fun q hq => ?_⟩, fun q hq => ?_⟩
  · rw [hw q hq]
    exact ⟨by kernel_rfl, by kernel_rfl, by kernel_rfl⟩
  · rw [hw q hq]
    kernel_rfl
  rw [hw q hq]
  kernel_rfl
theorem brack_st (l : List UInt8) : StS s (93 :: l) := by
  refine ⟨brk_cons (by decide), fun q hq => ?_⟩
  rw [(rem_sign (c := 93) (by decide) (.inl (by decide)) hq).1]
  exact ⟨by kernel_rfl, by kernel_rfl, by kernel_rfl⟩
theorem take_end {p : PS s} {l : List UInt8} (h : Rem s p (59 :: 10 :: l)) : Gets (takeF s ⟨#[59]⟩ p) () l :=
  gets_take (rem_sign (c := 59) (by decide) (.inl (by decide)) h).1 (rem_space (c := 10) (by decide) (rem_sign (c := 59) (by decide) (.inl (by decide)) h).2)
/-- A sign with a space on each side. -/
theorem take_eq {p : PS s} {l : List UInt8} (h : Rem s p (32 :: 61 :: 32 :: l)) : Gets (takeF s ⟨#[61]⟩ p) () l :=
  gets_take (rem_op (c := 61) (by decide) h).1 (rem_op (c := 61) (by decide) h).2
theorem stmt_rd {n : Nat} (ih : BlockRd s n) : StmtRd s (n + 1) := by
  intro st k t j p l hk h hl hp
  obtain ⟨kind, name, proc, args, cond, body, els⟩ := st
  have hk1 : IntKind.i64.wrap ((k : Int) + 1) = ((k + 1 : Nat) : Int) := by rw [i64_id (by omega) (by omega)]; omega
  have nm : ∀ m : ByteArray, isNameF m = true → (eqW m ⟨#[105, 102]⟩ || eqW m ⟨#[119, 104, 105, 108, 101]⟩) = false ∧ (eqW m ⟨#[97, 115, 115, 101, 114, 116]⟩ || eqW m ⟨#[97, 115, 115, 117, 109, 101]⟩) = false ∧ eqW m ⟨#[114, 101, 97, 100]⟩ = false := fun m hm => by
    refine ⟨?_, ?_, name_res hm (by kernel_rfl)⟩
    · rw [name_res hm (x := ⟨#[105, 102]⟩) (by kernel_rfl), name_res hm (x := ⟨#[119, 104, 105, 108, 101]⟩) (by kernel_rfl)]; rfl
    rw [name_res hm (x := ⟨#[97, 115, 115, 101, 114, 116]⟩) (by kernel_rfl), name_res hm (x := ⟨#[97, 115, 115, 117, 109, 101]⟩) (by kernel_rfl)]; rfl
  rcases stmt_some h with ⟨rfl, rfl, rfl, rfl, rfl, hm, x, t1, k1, rfl, h1, rfl⟩ | ⟨rfl, rfl, rfl, rfl, rfl, hm, x, y, t1, k1, t2, k2, rfl, h1, h2, rfl⟩ | ⟨rfl, rfl, rfl, rfl, hm, hm2, t1, k1, h1, rfl⟩ | ⟨rfl, rfl, rfl, rfl, c, k1, b, k2, r, h1, h2, rfl, h3⟩ | ⟨rfl, rfl, rfl, rfl, rfl, c, k1, b, k2, h1, h2, rfl⟩ | ⟨hkd, rfl, rfl, rfl, rfl, rfl, c, k1, h1, rfl⟩ | ⟨rfl, rfl, rfl, rfl, rfl, rfl, hm, rfl⟩
  · have hp := rem_ln hp
    simp only [bs8_app, List.append_assoc] at hp
    have hp : Rem s p (bs8 name ++ (32 :: 61 :: 32 :: (bs8 t1 ++ (59 :: 10 :: l)))) := hp
    have hw := (rem_letters (name_pos hm) (name_letters hm) (brk_sp _) hp).1
    obtain ⟨e1, e2, e3⟩ := nm name hm
    simp only [stmtF, hw, e1, e2, e3]
    refine gets_bind (gets_name hm (brk_sp _) hp) fun q hq => ?_
    have ho := (rem_op (c := 61) (by decide) hq).1
    have e4 : eqW q.w ⟨#[91]⟩ = false := by rw [ho]; kernel_rfl
    simp only [e4]
    refine gets_bind (take_eq hq) fun q2 hq2 => ?_
    have g := fun n => gets_term (n := n) (d := 1) (by decide) h1 (semi_st (s := s) _).1.1.1 (semi_st (s := s) _).1.1.2 hq2
    have e5 : eqW q2.w ⟨#[99, 97, 108, 108]⟩ = false := by
      cases q : eqW q2.w ⟨#[99, 97, 108, 108]⟩ with
      | false => rfl
      | true =>
        have g3 := g 3
        have e1 : eqW (⟨#[99, 97, 108, 108]⟩ : ByteArray) ⟨#[45]⟩ = false := by kernel_rfl
        have e2 : eqW (⟨#[99, 97, 108, 108]⟩ : ByteArray) ⟨#[40]⟩ = false := by kernel_rfl
        have e3 : isD (byteAt (⟨#[99, 97, 108, 108]⟩ : ByteArray) 0) = false := by kernel_rfl
        have e4 : isNameF ⟨#[99, 97, 108, 108]⟩ = false := by kernel_rfl
        simp only [termF, productF, factorF, eqW_eq q, e1, e2, e3, Bool.and_false, nameF, e4, R.bind] at g3
        exact g3.elim
    simp only [e5]
    exact gets_bind (g n) fun q3 hq3 => gets_bind (take_end hq3) fun q4 hq4 => gets_ok hq4
  · have hp := rem_ln hp
    simp only [bs8_app, List.append_assoc] at hp
    have hp : Rem s p (bs8 name ++ (91 :: (bs8 t1 ++ (93 :: 32 :: 61 :: 32 :: (bs8 t2 ++ (59 :: 10 :: l)))))) := hp
    have hw := (rem_letters (name_pos hm) (name_letters hm) (brk_cons (c := 91) (by decide)) hp).1
    obtain ⟨e1, e2, e3⟩ := nm name hm
    simp only [stmtF, hw, e1, e2, e3]
    refine gets_bind (gets_name hm (brk_cons (c := 91) (by decide)) hp) fun q hq => ?_
    obtain ⟨e4, hq1⟩ := rem_sign (c := 91) (by decide) (.inl (by decide)) hq
    rw [e4, eqW_self]
    simp only
    refine gets_bind (gets_term (n := n) (d := 1) (by decide) h1 (brack_st (s := s) _).1 (brack_st (s := s) _).2 hq1) fun q2 hq2 => ?_
    refine gets_bind (take_sign (c := 93) (by decide) (.inl (by decide)) hq2) fun q3 hq3 => ?_
    refine gets_bind (take_eq hq3) fun q4 hq4 => ?_
    refine gets_bind (gets_term (n := n) (d := 1) (by decide) h2 (semi_st (s := s) _).1.1.1 (semi_st (s := s) _).1.1.2 hq4) fun q5 hq5 => ?_
    exact gets_bind (take_end hq5) fun q6 hq6 => gets_ok hq6
  · have hp := rem_ln hp
    simp only [bs8_app, List.append_assoc] at hp
    have hp : Rem s p (bs8 name ++ (32 :: 61 :: 32 :: (bs8 (⟨#[99, 97, 108, 108]⟩ : ByteArray) ++ (32 :: (bs8 proc ++ (40 :: (bs8 t1 ++ (41 :: 59 :: 10 :: l)))))))) := hp
    have hw := (rem_letters (name_pos hm) (name_letters hm) (brk_sp _) hp).1
    obtain ⟨e1, e2, e3⟩ := nm name hm
    simp only [stmtF, hw, e1, e2, e3]
    refine gets_bind (gets_name hm (brk_sp _) hp) fun q hq => ?_
    have ho := (rem_op (c := 61) (by decide) hq).1
    have e4 : eqW q.w ⟨#[91]⟩ = false := by rw [ho]; kernel_rfl
    simp only [e4]
    refine gets_bind (take_eq hq) fun q2 hq2 => ?_
    obtain ⟨e5, hq3⟩ := rem_kw0 (w := ⟨#[99, 97, 108, 108]⟩) (by decide) (by decide) hq2
    rw [e5, eqW_self]
    simp only
    refine gets_bind (gets_name hm2 (brk_cons (c := 40) (by decide)) hq3) fun q4 hq4 => ?_
    refine gets_bind (take_sign (c := 40) (by decide) (.inl (by decide)) hq4) fun q5 hq5 => ?_
    refine gets_bind (gets_args (n := n) h1 hq5) fun q6 hq6 => ?_
    exact gets_bind (take_end hq6) fun q7 hq7 => gets_ok hq7
  · simp only [bs8_app, List.append_assoc] at hp
    have hp := rem_ln hp
    simp only [bs8_app, List.append_assoc] at hp
    have hp : Rem s p (bs8 (⟨#[105, 102]⟩ : ByteArray) ++ (32 :: (bs8 c ++ (32 :: 123 :: 10 :: (bs8 b ++ (bs8 r ++ l)))))) := hp
    obtain ⟨hw, hq⟩ := rem_kw0 (by decide) (by decide) hp
    have e1 : (eqW (⟨#[105, 102]⟩ : ByteArray) ⟨#[105, 102]⟩ || eqW (⟨#[105, 102]⟩ : ByteArray) ⟨#[119, 104, 105, 108, 101]⟩) = true := by kernel_rfl
    simp only [stmtF, hw, e1]
    refine gets_bind (gets_cond (n := n) h1 (brace_st _) hq) fun q2 hq2 => ?_
    have hq2 := rem_space (c := 32) (by decide) hq2
    rw [hk1]
    rcases h3 with ⟨rfl, rfl⟩ | ⟨e, k3, h3, rfl⟩
    · simp only [lnI, bs8_app, List.append_assoc] at hq2
      refine gets_bind (ih body (k + 1) k b k2 q2 (10 :: l) h2 hq2) fun q3 hq3 => ?_
      have hq3 := rem_space (c := 10) (by decide) hq3
      rw [hl q3 hq3, Bool.and_false]
      exact gets_ok hq3
    simp only [lnI, bs8_app, List.append_assoc] at hq2
    have hq2 : Rem s q2 (123 :: 10 :: (bs8 b ++ (bs8 (indent k) ++ (125 :: 32 :: (bs8 (⟨#[101, 108, 115, 101]⟩ : ByteArray) ++ (32 :: 123 :: 10 :: (bs8 e ++ (bs8 (indent k) ++ (125 :: 10 :: l)))))))) ) := hq2
    refine gets_bind (ih body (k + 1) k b k2 q2 _ h2 hq2) fun q3 hq3 => ?_
    obtain ⟨e5, hq4⟩ := rem_kw (w := ⟨#[101, 108, 115, 101]⟩) (by decide) (by decide) hq3
    rw [e5, eqW_self, eqW_self]
    simp only [Bool.and_self]
    refine gets_bind (ih els (k + 1) k e k3 (nx s q3) (10 :: l) h3 hq4) fun q5 hq5 => ?_
    exact gets_ok (rem_space (c := 10) (by decide) hq5)
  · simp only [bs8_app, List.append_assoc] at hp
    have hp := rem_ln hp
    simp only [lnI, bs8_app, List.append_assoc] at hp
    have hp : Rem s p (bs8 (⟨#[119, 104, 105, 108, 101]⟩ : ByteArray) ++ (32 :: (bs8 c ++ (32 :: 123 :: 10 :: (bs8 b ++ (bs8 (indent k) ++ (125 :: 10 :: l))))))) := hp
    obtain ⟨hw, hq⟩ := rem_kw0 (by decide) (by decide) hp
    have e1 : (eqW (⟨#[119, 104, 105, 108, 101]⟩ : ByteArray) ⟨#[105, 102]⟩ || eqW (⟨#[119, 104, 105, 108, 101]⟩ : ByteArray) ⟨#[119, 104, 105, 108, 101]⟩) = true := by kernel_rfl
    have e2 : eqW (⟨#[119, 104, 105, 108, 101]⟩ : ByteArray) ⟨#[105, 102]⟩ = false := by kernel_rfl
    simp only [stmtF, hw, e1]
    refine gets_bind (gets_cond (n := n) h1 (brace_st _) hq) fun q2 hq2 => ?_
    have hq2 := rem_space (c := 32) (by decide) hq2
    rw [hk1]
    refine gets_bind (ih body (k + 1) k b k2 q2 (10 :: l) h2 hq2) fun q3 hq3 => ?_
    rw [e2, Bool.false_and]
    exact gets_ok (rem_space (c := 10) (by decide) hq3)
  · have hp := rem_ln hp
    simp only [bs8_app, List.append_assoc] at hp
    have hp : Rem s p (bs8 kind ++ (32 :: (bs8 c ++ (59 :: 10 :: l)))) := hp
    have hL : 0 < kind.size ∧ (∀ c, c ∈ bs8 kind → isL c.toNat = true) ∧ (eqW kind ⟨#[105, 102]⟩ || eqW kind ⟨#[119, 104, 105, 108, 101]⟩) = false ∧ (eqW kind ⟨#[97, 115, 115, 101, 114, 116]⟩ || eqW kind ⟨#[97, 115, 115, 117, 109, 101]⟩) = true := by
      rcases hkd with rfl | rfl <;> exact ⟨by decide, by decide, by kernel_rfl, by kernel_rfl⟩
    obtain ⟨hw, hq⟩ := rem_kw0 hL.1 hL.2.1 hp
    simp only [stmtF, hw, hL.2.2.1, hL.2.2.2]
    refine gets_bind (gets_cond (n := n) h1 (semi_st _) hq) fun q2 hq2 => ?_
    exact gets_bind (take_end hq2) fun q3 hq3 => gets_ok hq3
  have hp := rem_ln hp
  simp only [bs8_app, List.append_assoc] at hp
  have hp : Rem s p (bs8 (⟨#[114, 101, 97, 100]⟩ : ByteArray) ++ (32 :: (bs8 name ++ (59 :: 10 :: l)))) := hp
  obtain ⟨hw, hq⟩ := rem_kw0 (by decide) (by decide) hp
  have e1 : (eqW (⟨#[114, 101, 97, 100]⟩ : ByteArray) ⟨#[105, 102]⟩ || eqW (⟨#[114, 101, 97, 100]⟩ : ByteArray) ⟨#[119, 104, 105, 108, 101]⟩) = false := by kernel_rfl
  have e2 : (eqW (⟨#[114, 101, 97, 100]⟩ : ByteArray) ⟨#[97, 115, 115, 101, 114, 116]⟩ || eqW (⟨#[114, 101, 97, 100]⟩ : ByteArray) ⟨#[97, 115, 115, 117, 109, 101]⟩) = false := by kernel_rfl
  simp only [stmtF, hw, e1, e2, eqW_self]
  refine gets_bind (gets_name hm (brk_cons (c := 59) (by decide)) hq) fun q2 hq2 => ?_
  exact gets_bind (take_end hq2) fun q3 hq3 => gets_ok hq3
/-- Statements and blocks are read as they are written. -/
theorem text_rd : ∀ n : Nat, StmtRd s n ∧ LoopRd s n ∧ BlockRd s n
  | 0 => ⟨fun _ _ _ _ _ _ _ _ _ _ => by simp only [stmtF]; trivial, fun _ _ _ _ _ _ _ _ _ _ => by simp only [stmtsL]; trivial, fun _ _ _ _ _ _ _ _ _ => by simp only [blockF]; trivial⟩
  | n + 1 => ⟨stmt_rd (text_rd n).2.2, loop_rd (text_rd n).2.1 (text_rd n).1, block_rd (text_rd n).2.1⟩
end
end Go.Abs
end
section
namespace Go.Abs
open Go Go.Proofs
section
variable {s : ByteArray}
theorem gets_vars : ∀ (L : List ByteArray) (t : ByteArray) (j n : Nat) (acc : List ByteArray) (p : PS s) (l : List UInt8), varsI L = some (t, j) → (∀ q : PS s, Rem s q l → eqW q.w ⟨#[118, 97, 114]⟩ = false) → Rem s p (bs8 t ++ l) → Gets (varsL s n acc p) (acc ++ L) l
  | L, t, j, 0, acc, p, l, _, _, _ => by simp only [varsL]; trivial
  | [], t, j, n + 1, acc, p, l, h, hl, hp => by
    obtain ⟨rfl, _⟩ := ret_some h
    have hp : Rem s p l := hp
    simp only [varsL, hl p hp, List.append_nil]
    exact gets_ok hp
  | v :: r, t, j, n + 1, acc, p, l, h, hl, hp => by
    obtain ⟨hm, h⟩ := grd_some h
    obtain ⟨t1, t2, k1, k2, h1, h2, rfl, _⟩ := sq_some h
    obtain ⟨rfl, _⟩ := ret_some h1
    rw [bs8_app, List.append_assoc] at hp
    have hp := rem_ln hp
    simp only [bs8_app, List.append_assoc] at hp
    have hp : Rem s p (bs8 (⟨#[118, 97, 114]⟩ : ByteArray) ++ (32 :: (bs8 v ++ (59 :: 10 :: (bs8 t2 ++ l))))) := hp
    obtain ⟨hw, hq⟩ := rem_kw0 (by decide) (by decide) hp
    simp only [varsL, hw, eqW_self]
    refine gets_bind (gets_name hm (brk_cons (c := 59) (by decide)) hq) fun q2 hq2 => ?_
    refine gets_bind (take_end hq2) fun q3 hq3 => ?_
    have := gets_vars r t2 k2 n (acc ++ [v]) q3 l h2 hl hq3
    rwa [List.append_assoc] at this
theorem gets_arrs : ∀ (L : List Ar) (t : ByteArray) (j n : Nat) (acc : List Ar) (p : PS s) (l : List UInt8), arrsI L = some (t, j) → (∀ q : PS s, Rem s q l → eqW q.w ⟨#[97, 114, 114, 97, 121]⟩ = false) → Rem s p (bs8 t ++ l) → Gets (arrsL s n acc p) (acc ++ L) l
  | L, t, j, 0, acc, p, l, _, _, _ => by simp only [arrsL]; trivial
  | [], t, j, n + 1, acc, p, l, h, hl, hp => by
    obtain ⟨rfl, _⟩ := ret_some h
    have hp : Rem s p l := hp
    simp only [arrsL, hl p hp, List.append_nil]
    exact gets_ok hp
  | ⟨nm, sz⟩ :: r, t, j, n + 1, acc, p, l, h, hl, hp => by
    obtain ⟨hz, h⟩ := grd_some h
    obtain ⟨hm, h⟩ := grd_some h
    obtain ⟨t1, t2, k1, k2, h1, h2, rfl, _⟩ := sq_some h
    obtain ⟨rfl, _⟩ := ret_some h1
    simp only [Bool.and_eq_true, decide_eq_true_eq] at hz
    rw [bs8_app, List.append_assoc] at hp
    have hp := rem_ln hp
    simp only [bs8_app, List.append_assoc] at hp
    have hp : Rem s p (bs8 (⟨#[97, 114, 114, 97, 121]⟩ : ByteArray) ++ (32 :: (bs8 nm ++ (91 :: (bs8 (itoaB sz) ++ (93 :: 59 :: 10 :: (bs8 t2 ++ l))))))) := hp
    obtain ⟨hw, hq⟩ := rem_kw0 (by decide) (by decide) hp
    simp only [arrsL, hw, eqW_self]
    refine gets_bind (gets_name hm (brk_cons (c := 91) (by decide)) hq) fun q2 hq2 => ?_
    refine gets_bind (take_sign (c := 91) (by decide) (.inl (by decide)) hq2) fun q3 hq3 => ?_
    refine gets_bind (gets_num hz.1 hz.2 (brk_cons (c := 93) (by decide)) hq3).1 fun q4 hq4 => ?_
    refine gets_bind (take_sign (c := 93) (by decide) (.inl (by decide)) hq4) fun q5 hq5 => ?_
    refine gets_bind (take_end hq5) fun q6 hq6 => ?_
    have := gets_arrs r t2 k2 n (acc ++ [⟨nm, sz⟩]) q6 l h2 hl hq6
    rwa [List.append_assoc] at this
theorem gets_procs : ∀ (L : List Pc) (t : ByteArray) (j n : Nat) (acc : List Pc) (p : PS s) (l : List UInt8), procsI L = some (t, j) → (∀ q : PS s, Rem s q l → eqW q.w ⟨#[112, 114, 111, 99]⟩ = false) → Rem s p (bs8 t ++ l) → Gets (procsL s n acc p) (acc ++ L) l
  | L, t, j, 0, acc, p, l, _, _, _ => by simp only [procsL]; trivial
  | [], t, j, n + 1, acc, p, l, h, hl, hp => by
    obtain ⟨rfl, _⟩ := ret_some h
    have hp : Rem s p l := hp
    simp only [procsL, hl p hp, List.append_nil]
    exact gets_ok hp
  | ⟨nm, ps, bd, rt⟩ :: r, t, j, n + 1, acc, p, l, h, hl, hp => by
    obtain ⟨hz, h⟩ := grd_some h
    obtain ⟨hm, h⟩ := grd_some h
    obtain ⟨t1, t2, k1, k2, h1, h2, rfl, _⟩ := sq_some h
    obtain ⟨rfl, _⟩ := ret_some h1
    obtain ⟨b, t3, k3, k4, h3, h4, rfl, _⟩ := sq_some h2
    obtain ⟨t4, t5, k5, k6, h5, h6, rfl, _⟩ := sq_some h4
    obtain ⟨e, k7, i7, h7, h8, _⟩ := bd_some h5
    obtain ⟨rfl, _⟩ := ret_some h8
    obtain ⟨t6, t7, k8, k9, h9, h10, rfl, _⟩ := sq_some h6
    obtain ⟨rfl, _⟩ := ret_some h9
    simp only [bs8_app, List.append_assoc] at hp
    have hp := rem_ln hp
    simp only [lnI, bs8_app, List.append_assoc] at hp
    have hp : Rem s p (bs8 (⟨#[112, 114, 111, 99]⟩ : ByteArray) ++ (32 :: (bs8 nm ++ (40 :: (bs8 (joinB ps ⟨#[44, 32]⟩) ++ (41 :: 32 :: 123 :: 10 :: (bs8 b ++ (bs8 (indent 1) ++ (bs8 (⟨#[114, 101, 116, 117, 114, 110]⟩ : ByteArray) ++ (32 :: (bs8 e ++ (59 :: 10 :: 125 :: 10 :: (bs8 t7 ++ l))))))))))))) := hp
    obtain ⟨hw, hq⟩ := rem_kw0 (by decide) (by decide) hp
    simp only [procsL, hw, eqW_self]
    refine gets_bind (gets_name hm (brk_cons (c := 40) (by decide)) hq) fun q2 hq2 => ?_
    refine gets_bind (take_sign (c := 40) (by decide) (.inl (by decide)) hq2) fun q3 hq3 => ?_
    refine gets_bind (gets_prms (n := n) hz hq3) fun q4 hq4 => ?_
    refine Eq.mpr (congrArg (fun r => Gets r _ _) (blockQ_bind n 1 q4 (fun b e q => procsL s n (acc ++ [⟨nm, ps, b, e⟩]) q))) ?_
    refine gets_bind (take_sign (c := 123) (by decide) (.inl (by decide)) (rem_space (c := 32) (by decide) hq4)) fun q5 hq5 => ?_
    have hq5 := rem_space (c := 10) (by decide) hq5
    refine gets_bind ((text_rd n).2.1 bd 1 b _ [] q5 _ h3 (fun q hq => .inr (rem_kw0 (w := ⟨#[114, 101, 116, 117, 114, 110]⟩) (by decide) (by decide) (rem_spaces (indent_sp 1) hq)).1) hq5) fun q6 hq6 => ?_
    obtain ⟨hw6, hq7⟩ := rem_kw0 (w := ⟨#[114, 101, 116, 117, 114, 110]⟩) (by decide) (by decide) (rem_spaces (indent_sp 1) hq6)
    refine gets_bind (gets_take hw6 hq7) fun q8 hq8 => ?_
    refine gets_bind (gets_term (n := n) (d := 1) (by decide) h7 (semi_st (s := s) _).1.1.1 (semi_st (s := s) _).1.1.2 hq8) fun q9 hq9 => ?_
    refine gets_bind (take_end hq9) fun q10 hq10 => ?_
    refine gets_bind (take_sign (c := 125) (by decide) (.inl (by decide)) hq10) fun q11 hq11 => ?_
    have := gets_procs r t7 k9 n (acc ++ [⟨nm, ps, bd, rt⟩]) q11 l h10 hl (rem_space (c := 10) (by decide) hq11)
    rwa [List.append_assoc] at this
theorem main_head {m : List Sm} {t : ByteArray} {j : Nat} {q : PS s} {l : List UInt8} (h : mainI m = some (t, j)) (hq : Rem s q (bs8 t ++ l)) : q.w = ⟨#[109, 97, 105, 110]⟩ := by
  obtain ⟨t1, t2, k1, k2, h1, h2, rfl, _⟩ := sq_some h
  obtain ⟨rfl, _⟩ := ret_some h1
  rw [bs8_app, List.append_assoc] at hq
  exact (rem_kw0 (w := ⟨#[109, 97, 105, 110]⟩) (by decide) (by decide) (rem_ln hq)).1
theorem procs_head {L : List Pc} {t : ByteArray} {j : Nat} {q : PS s} {l : List UInt8} (h : procsI L = some (t, j)) (hl : ∀ q : PS s, Rem s q l → q.w = ⟨#[109, 97, 105, 110]⟩) (hq : Rem s q (bs8 t ++ l)) : q.w = ⟨#[109, 97, 105, 110]⟩ ∨ q.w = ⟨#[112, 114, 111, 99]⟩ := by
  cases L with
  | nil => obtain ⟨rfl, _⟩ := ret_some h; exact .inl (hl q hq)
  | cons f r =>
    obtain ⟨nm, ps, bd, rt⟩ := f
    obtain ⟨hz, h⟩ := grd_some h
    obtain ⟨hm, h⟩ := grd_some h
    obtain ⟨t1, t2, k1, k2, h1, h2, rfl, _⟩ := sq_some h
    obtain ⟨rfl, _⟩ := ret_some h1
    rw [bs8_app, List.append_assoc] at hq
    have hq := rem_ln hq
    simp only [bs8_app, List.append_assoc] at hq
    exact .inr (rem_kw0 (w := ⟨#[112, 114, 111, 99]⟩) (by decide) (by decide) hq).1
theorem arrs_head {L : List Ar} {t : ByteArray} {j : Nat} {q : PS s} {l : List UInt8} (h : arrsI L = some (t, j)) (hl : ∀ q : PS s, Rem s q l → q.w = ⟨#[109, 97, 105, 110]⟩ ∨ q.w = ⟨#[112, 114, 111, 99]⟩) (hq : Rem s q (bs8 t ++ l)) : (q.w = ⟨#[109, 97, 105, 110]⟩ ∨ q.w = ⟨#[112, 114, 111, 99]⟩) ∨ q.w = ⟨#[97, 114, 114, 97, 121]⟩ := by
  cases L with
  | nil => obtain ⟨rfl, _⟩ := ret_some h; exact .inl (hl q hq)
  | cons f r =>
    obtain ⟨nm, sz⟩ := f
    obtain ⟨hz, h⟩ := grd_some h
    obtain ⟨hm, h⟩ := grd_some h
    obtain ⟨t1, t2, k1, k2, h1, h2, rfl, _⟩ := sq_some h
    obtain ⟨rfl, _⟩ := ret_some h1
    rw [bs8_app, List.append_assoc] at hq
    have hq := rem_ln hq
    simp only [bs8_app, List.append_assoc] at hq
    exact .inr (rem_kw0 (w := ⟨#[97, 114, 114, 97, 121]⟩) (by decide) (by decide) hq).1
end
/-- What has a text is read again from it, the same. -/
theorem round_trip (s : ByteArray) (g : Pg) (k : Nat) (h : progI g = some (s, k)) (n : Nat) : progF s n (nx s (p0 s)) = .out ∨ ∃ q, progF s n (nx s (p0 s)) = .ok g q := by
  have hp := rem_start s
  obtain ⟨tv, t2, k1, k2, h1, h2, e1, _⟩ := sq_some h
  obtain ⟨ta, t3, k3, k4, h3, h4, e2, _⟩ := sq_some h2
  obtain ⟨tp, tm, k5, k6, h5, h6, e3, _⟩ := sq_some h4
  have es : bs8 s = bs8 tv ++ (bs8 ta ++ (bs8 tp ++ (bs8 tm ++ []))) := by rw [e1, e2, e3]; simp only [bs8_app, List.append_nil]
  rw [es] at hp
  have hm : ∀ q : PS s, Rem s q (bs8 tm ++ []) → q.w = ⟨#[109, 97, 105, 110]⟩ := fun q hq => main_head h6 hq
  have hpr : ∀ q : PS s, Rem s q (bs8 tp ++ (bs8 tm ++ [])) → q.w = ⟨#[109, 97, 105, 110]⟩ ∨ q.w = ⟨#[112, 114, 111, 99]⟩ := fun q hq => procs_head h5 hm hq
  have har : ∀ q : PS s, Rem s q (bs8 ta ++ (bs8 tp ++ (bs8 tm ++ []))) → (q.w = ⟨#[109, 97, 105, 110]⟩ ∨ q.w = ⟨#[112, 114, 111, 99]⟩) ∨ q.w = ⟨#[97, 114, 114, 97, 121]⟩ := fun q hq => arrs_head h3 hpr hq
  have g1 := gets_vars g.vars tv k1 n [] (nx s (p0 s)) _ h1 (fun q hq => by rcases har q hq with (e | e) | e <;> rw [e] <;> kernel_rfl) hp
  unfold progF
  cases hr1 : varsL s n [] (nx s (p0 s)) with
  | bad q c => rw [hr1] at g1; exact g1.elim
  | out => exact .inl rfl
  | ok v q =>
    rw [hr1] at g1
    obtain ⟨rfl, hq⟩ := g1
    have g2 := gets_arrs g.arrays ta k3 n [] q _ h3 (fun q hq => by rcases hpr q hq with e | e <;> rw [e] <;> kernel_rfl) hq
    simp only [R.bind]
    cases hr2 : arrsL s n [] q with
    | bad q c => rw [hr2] at g2; exact g2.elim
    | out => exact .inl rfl
    | ok a q2 =>
      rw [hr2] at g2
      obtain ⟨rfl, hq2⟩ := g2
      have g3 := gets_procs g.procs tp k5 n [] q2 _ h5 (fun q hq => by rw [hm q hq]; kernel_rfl) hq2
      simp only
      cases hr3 : procsL s n [] q2 with
      | bad q c => rw [hr3] at g3; exact g3.elim
      | out => exact .inl rfl
      | ok f q3 =>
        rw [hr3] at g3
        obtain ⟨rfl, hq3⟩ := g3
        simp only
        have hw := hm q3 hq3
        obtain ⟨t6, t7, k7, k8, h7, h8, rfl, _⟩ := sq_some h6
        obtain ⟨rfl, _⟩ := ret_some h7
        obtain ⟨b, t8, k9, k10, h9, h10, rfl, _⟩ := sq_some h8
        obtain ⟨rfl, _⟩ := ret_some h10
        simp only [bs8_app, List.append_assoc] at hq3
        have hq3 := rem_ln hq3
        simp only [lnI, bs8_app, List.append_assoc] at hq3
        have hq3 : Rem s q3 (bs8 (⟨#[109, 97, 105, 110]⟩ : ByteArray) ++ (32 :: 123 :: 10 :: (bs8 b ++ (bs8 (indent 0) ++ (125 :: [10]))))) := hq3
        have hq4 := (rem_kw0 (by decide) (by decide) hq3).2
        unfold takeF
        rw [hw, eqW_self]
        simp only
        have g4 := (text_rd n).2.2 g.main 1 0 b _ (nx s q3) [10] h9 hq4
        cases hr4 : blockF s n ((1 : Nat) : Int) (nx s q3) with
        | bad q c => rw [hr4] at g4; exact g4.elim
        | out =>
          exact .inl rfl
        | ok m q5 =>
          rw [hr4] at g4
          obtain ⟨rfl, hq5⟩ := g4
          simp only
          rw [rem_end (rem_space (c := 10) (by decide) hq5), eqW_self]
          exact .inr ⟨_, rfl⟩
end Go.Abs
end
section
namespace Go.Abs
open Go Go.Proofs
attribute [local irreducible] aCall AWp Sub Spec
section
variable {t : Nat → TypeId} {u : Nat → Value}
theorem coded_err (hE : ErrsOk t u) (k : Nat) (hk : k ≤ 7) (c : Int) : Spec Tryz.prog (GV t u) 25 [.d (.s (.iface (t k) (u k))), .d (num c)] [] (.ret (.d (.s (.bool (((posOf k + 1 : Int) == c) && ((-1 : Int) == -1)))))) [] := by
  refine spec_of_awp2 TT_ok (N := 19) Tryz.func25 rfl (by rfl) (Nat.le_refl _) rfl ?_
  refine awp_seq ?_; refine rgn fun pan K hp hK => ?_; refine hK _ ?_; clear hK hp K pan; refine awp_norm [0, 1] rfl rfl ?_; refine awp_seq ?_; refine rgn fun pan K hp hK => ?_; show aCall _ _ _ _ _ _ _
  refine aCall_ret (L := []) rfl rfl rfl (code_err hE k hk) rfl rfl rfl rfl ?_
  refine hK _ ?_; clear hK hp K pan; refine awp_norm [1, 5, 6] rfl rfl ?_; refine awp_seq ?_; refine rgn fun pan K hp hK => ?_
  refine onB_intro (fun h1 => ?_) (fun h1 => ?_)
  · refine hK _ ?_; clear hK hp K pan; refine awp_norm [4] rfl rfl ?_; refine awp_ret ?_
    exact ⟨_, [], _, [.d (.s (.bool _))], rfl, rfl, rfl, rfl, rfl, by (first | exact PWs.refl _ | (simp only [h1, Bool.true_and]; exact PWs.refl _)), rfl⟩
  refine hK _ ?_; clear hK hp K pan; refine awp_norm [4] rfl rfl ?_; refine awp_ret ?_
  exact ⟨_, [], _, [.d (.s (.bool _))], rfl, rfl, rfl, rfl, rfl, by (first | exact PWs.refl _ | (simp only [h1, Bool.false_and]; exact PWs.refl _)), rfl⟩
end
end Go.Abs
end
section
namespace Go.Abs
open Go Go.Proofs
attribute [local irreducible] aCall AWp Sub Spec
section
variable {t : Nat → TypeId} {u : Nat → Value}
/-- A program has this text, from which it is read again. -/
structure Wr (t : Nat → TypeId) (u : Nat → Value) (p : Pg) (t1 : ByteArray) : Prop where
  w : Spec Tryz.prog (GV t u) 22 [.d (.agg p.cs)] [] (.ret (.tup [.d (str t1), .d (.s .nilIface)])) []
  r : Spec Tryz.prog (GV t u) 16 [.d (str t1)] [] (.ret (.tup [encP p, .d (.s .nilIface)])) []
  b : Spec Tryz.prog (GV t u) 21 [.d (.agg p.cs)] [] (.ret (.d (.agg p.cs))) []
  s : Spec Tryz.prog (GV t u) 20 [.d (.agg p.cs), .d (.agg p.cs)] [] (.ret (.d (.s (.bool true)))) []
/-- A program has no text. -/
structure NoT (t : Nat → TypeId) (u : Nat → Value) (p : Pg) : Prop where
  w : Spec Tryz.prog (GV t u) 22 [.d (.agg p.cs)] [] (.ret (.tup [.d (str ⟨#[]⟩), .d (.s (.iface (t 1) (u 1)))])) []
theorem twice_long (p : Pg) (s : ByteArray) (hz : 2000 < s.size) : Spec Tryz.prog (GV t u) 5 [.d (.agg p.cs), .d (str s)] [] (.ret (.d (.s (.bool true)))) [] := by
  refine spec_of_awp2 TT_ok (N := 91) Tryz.func5 rfl (by rfl) (Nat.le_refl _) rfl ?_
  refine awp_seq ?_; refine rgn fun pan K hp hK => ?_; refine hK _ ?_; clear hK hp K pan; refine awp_norm [1, 2] rfl rfl ?_; refine awp_seq ?_; refine rgn fun pan K hp hK => ?_; show aCall _ _ _ _ _ _ _
  refine aCall_ret (L := []) rfl rfl rfl (one_true t u) rfl rfl rfl rfl ?_
  refine hK _ ?_; clear hK hp K pan; refine awp_norm [1, 2, 5] rfl rfl ?_; refine awp_seq ?_; refine awp_seq ?_; refine rgn fun pan K hp hK => ?_; refine hK _ ?_; clear hK hp K pan; refine awp_norm [1, 2, 5, 21] rfl rfl ?_
  refine awp_cond2 rfl (onB_intro (fun h1 => ?_) (fun h1 => ?_))
  · refine awp_seq ?_; refine rgn fun pan K hp hK => ?_; refine hK _ ?_; clear hK hp K pan; refine awp_norm [4] rfl rfl ?_; refine awp_ret ?_
    exact ⟨_, [], _, [.d (.s (.bool true))], rfl, rfl, rfl, rfl, rfl, by (first | exact PWs.refl _ | (simp; exact PWs.refl _)), rfl⟩
  have q1 := of_decide_eq_false h1
  omega
def p5_7 : Plan := (.take 0 (.take 1 (.take 2 (.load 3 (.load 5 (.one 4 (.one 6 (.take 7 (.take 8 .done)))))))))
theorem twice_ok_bad (p : Pg) (hw : wtPg p ≤ 400000000) (s : ByteArray) (hz : s.size ≤ 2000) (t1 : ByteArray) (w1 : Wr t u p t1) (i : Int) (k : Nat) (sr : Spec Tryz.prog (GV t u) 16 [.d (str s)] [] (.ret (.tup [encP zPg, .ifc 128 (.box 0 0)])) [flt i (t k) (u k)]) : Spec Tryz.prog (GV t u) 5 [.d (.agg p.cs), .d (str s)] [] (.ret (.d (.s (.bool true)))) [] := by
  have sn := noProg_spec (GV t u)
  refine spec_of_awp2 TT_ok (N := 91) Tryz.func5 rfl (by rfl) (Nat.le_refl _) rfl ?_
  refine awp_seq ?_; refine rgn fun pan K hp hK => ?_; refine hK _ ?_; clear hK hp K pan; refine awp_norm [1, 2] rfl rfl ?_; refine awp_seq ?_; refine rgn fun pan K hp hK => ?_; show aCall _ _ _ _ _ _ _
  refine aCall_ret (L := []) rfl rfl rfl (one_true t u) rfl rfl rfl rfl ?_
  refine hK _ ?_; clear hK hp K pan; refine awp_norm [1, 2, 5] rfl rfl ?_; refine awp_seq ?_; refine awp_seq ?_; refine rgn fun pan K hp hK => ?_; refine hK _ ?_; clear hK hp K pan; refine awp_norm [1, 2, 5, 21] rfl rfl ?_
  refine awp_cond2 rfl (onB_intro (fun h1 => ?_) (fun h1 => ?_))
  · have q1 := of_decide_eq_true h1
    omega
  refine awp_skip ?_; refine awp_seq ?_; refine rgn fun pan K hp hK => ?_; show aCall _ _ _ _ _ _ _
  refine aCall_ret (L := []) rfl rfl rfl (programOf_spec _ p (by omega)) rfl rfl rfl rfl ?_
  show aCall _ _ _ _ _ _ _
  refine aCall_ret (L := []) rfl rfl rfl w1.w rfl rfl rfl rfl ?_
  refine hK _ ?_; clear hK hp K pan; refine awp_norm [1, 2, 6, 7] rfl rfl ?_; refine awp_seq ?_; refine awp_seq ?_; refine rgn fun pan K hp hK => ?_; refine hK _ ?_; clear hK hp K pan; refine awp_norm [1, 2, 6, 30] rfl rfl ?_; refine awp_cond rfl ?_; refine awp_seq ?_; refine rgn fun pan K hp hK => ?_; show aCall _ _ _ _ _ _ _
  first
    | refine aCall_ret (L := []) rfl rfl rfl sr rfl rfl rfl rfl ?_
    | refine aCall_ret (L := []) rfl rfl rfl w1.r rfl rfl rfl rfl ?_
  refine hK _ ?_; clear hK hp K pan; refine awp_norm [1, 2, 8, 9] rfl rfl ?_; refine awp_seq ?_
  refine (awp_draw TT_ok mixed p5_7 [6] (fun _ => true) (by kernel_rfl) fun pan K hp hK => ?_)
  show aCall _ _ _ _ _ _ _
  refine aCall_ret (L := []) rfl rfl rfl w1.b rfl rfl rfl rfl ?_
  show aCall _ _ _ _ _ _ _
  refine aCall_ret (L := []) rfl rfl rfl w1.s rfl rfl rfl rfl ?_
  refine hK _ ?_; clear hK hp K pan; refine awp_norm [1, 44] rfl rfl ?_; refine awp_cond rfl ?_; refine awp_skip ?_; refine awp_seq ?_; refine rgn fun pan K hp hK => ?_; show aCall _ _ _ _ _ _ _
  first
    | refine aCall_ret (L := []) rfl rfl rfl sr rfl rfl rfl rfl ?_
    | refine aCall_ret (L := []) rfl rfl rfl w1.r rfl rfl rfl rfl ?_
  refine hK _ ?_; clear hK hp K pan; refine awp_norm [7, 10] rfl rfl ?_; refine awp_seq ?_; refine awp_seq ?_; refine rgn fun pan K hp hK => ?_; refine hK _ ?_; clear hK hp K pan; refine awp_norm [10, 51] rfl rfl ?_; refine awp_cond rfl ?_; refine awp_seq ?_; refine rgn fun pan K hp hK => ?_; show aCall _ _ _ _ _ _ _
  refine aCall_ret (L := []) rfl rfl rfl sn rfl rfl rfl rfl ?_
  refine hK _ ?_; clear hK hp K pan; refine awp_norm [4] rfl rfl ?_; refine awp_ret ?_
  exact ⟨_, [], _, [.d (.s (.bool true))], rfl, rfl, rfl, rfl, rfl, by (first | exact PWs.refl _ | (simp; exact PWs.refl _)), rfl⟩
def p5_17 : Plan := (.take 0 (.take 1 (.take 2 (.take 3 (.take 4 (.take 5 (.take 6 (.take 7 (.take 8 (.take 9 (.take 10 (.take 11 (.load 12 (.load 14 (.one 13 (.one 15 (.one 16 (.take 17 (.take 18 .done)))))))))))))))))))
theorem twice_ok_ok (hE : ErrsOk t u) (p : Pg) (hw : wtPg p ≤ 400000000) (s : ByteArray) (hz : s.size ≤ 2000) (t1 : ByteArray) (w1 : Wr t u p t1) (g : Pg) (sr : Spec Tryz.prog (GV t u) 16 [.d (str s)] [] (.ret (.tup [encP g, .d (.s .nilIface)])) []) (t2 : ByteArray) (w2 : Wr t u g t2) : Spec Tryz.prog (GV t u) 5 [.d (.agg p.cs), .d (str s)] [] (.ret (.d (.s (.bool true)))) [] := by
  have sc : Spec Tryz.prog (GV t u) 25 [.d (.s (.iface (t 1) (u 1))), .d (num 3)] [] (.ret (.d (.s (.bool true)))) [] := coded_err hE 1 (by decide) 3
  refine spec_of_awp2 TT_ok (N := 91) Tryz.func5 rfl (by rfl) (Nat.le_refl _) rfl ?_
  refine awp_seq ?_; refine rgn fun pan K hp hK => ?_; refine hK _ ?_; clear hK hp K pan; refine awp_norm [1, 2] rfl rfl ?_; refine awp_seq ?_; refine rgn fun pan K hp hK => ?_; show aCall _ _ _ _ _ _ _
  refine aCall_ret (L := []) rfl rfl rfl (one_true t u) rfl rfl rfl rfl ?_
  refine hK _ ?_; clear hK hp K pan; refine awp_norm [1, 2, 5] rfl rfl ?_; refine awp_seq ?_; refine awp_seq ?_; refine rgn fun pan K hp hK => ?_; refine hK _ ?_; clear hK hp K pan; refine awp_norm [1, 2, 5, 21] rfl rfl ?_
  refine awp_cond2 rfl (onB_intro (fun h1 => ?_) (fun h1 => ?_))
  · have q1 := of_decide_eq_true h1
    omega
  refine awp_skip ?_; refine awp_seq ?_; refine rgn fun pan K hp hK => ?_; show aCall _ _ _ _ _ _ _
  refine aCall_ret (L := []) rfl rfl rfl (programOf_spec _ p (by omega)) rfl rfl rfl rfl ?_
  show aCall _ _ _ _ _ _ _
  first
    | refine aCall_ret (L := []) rfl rfl rfl w1.w rfl rfl rfl rfl ?_
    | refine aCall_ret (L := []) rfl rfl rfl w2.w rfl rfl rfl rfl ?_
  refine hK _ ?_; clear hK hp K pan; refine awp_norm [1, 2, 6, 7] rfl rfl ?_; refine awp_seq ?_; refine awp_seq ?_; refine rgn fun pan K hp hK => ?_; refine hK _ ?_; clear hK hp K pan; refine awp_norm [1, 2, 6, 30] rfl rfl ?_; refine awp_cond rfl ?_; refine awp_seq ?_; refine rgn fun pan K hp hK => ?_; show aCall _ _ _ _ _ _ _
  first
    | refine aCall_ret (L := []) rfl rfl rfl sr rfl rfl rfl rfl ?_
    | refine aCall_ret (L := []) rfl rfl rfl w1.r rfl rfl rfl rfl ?_
    | refine aCall_ret (L := []) rfl rfl rfl w2.r rfl rfl rfl rfl ?_
  refine hK _ ?_; clear hK hp K pan; refine awp_norm [1, 2, 8, 9] rfl rfl ?_; refine awp_seq ?_
  refine (awp_draw TT_ok mixed p5_7 [6] (fun _ => true) (by kernel_rfl) fun pan K hp hK => ?_)
  show aCall _ _ _ _ _ _ _
  first
    | refine aCall_ret (L := []) rfl rfl rfl w1.b rfl rfl rfl rfl ?_
    | refine aCall_ret (L := []) rfl rfl rfl w2.b rfl rfl rfl rfl ?_
  show aCall _ _ _ _ _ _ _
  first
    | refine aCall_ret (L := []) rfl rfl rfl w1.s rfl rfl rfl rfl ?_
    | refine aCall_ret (L := []) rfl rfl rfl w2.s rfl rfl rfl rfl ?_
  refine hK _ ?_; clear hK hp K pan; refine awp_norm [1, 44] rfl rfl ?_; refine awp_cond rfl ?_; refine awp_skip ?_; refine awp_seq ?_; refine rgn fun pan K hp hK => ?_; show aCall _ _ _ _ _ _ _
  first
    | refine aCall_ret (L := []) rfl rfl rfl sr rfl rfl rfl rfl ?_
    | refine aCall_ret (L := []) rfl rfl rfl w1.r rfl rfl rfl rfl ?_
    | refine aCall_ret (L := []) rfl rfl rfl w2.r rfl rfl rfl rfl ?_
  refine hK _ ?_; clear hK hp K pan; refine awp_norm [7, 10] rfl rfl ?_; refine awp_seq ?_; refine awp_seq ?_; refine rgn fun pan K hp hK => ?_; refine hK _ ?_; clear hK hp K pan; refine awp_norm [10, 51] rfl rfl ?_; refine awp_cond rfl ?_; refine awp_skip ?_; refine awp_seq ?_; refine rgn fun pan K hp hK => ?_; show aCall _ _ _ _ _ _ _
  first
    | refine aCall_ret (L := []) rfl rfl rfl w1.w rfl rfl rfl rfl ?_
    | refine aCall_ret (L := []) rfl rfl rfl w2.w rfl rfl rfl rfl ?_
  refine hK _ ?_; clear hK hp K pan; refine awp_norm [6, 7, 10] rfl rfl ?_; refine awp_seq ?_; refine awp_seq ?_; refine rgn fun pan K hp hK => ?_; refine hK _ ?_; clear hK hp K pan; refine awp_norm [6, 7, 10, 60] rfl rfl ?_; refine awp_cond rfl ?_; refine awp_skip ?_; refine awp_seq ?_; refine rgn fun pan K hp hK => ?_; show aCall _ _ _ _ _ _ _
  first
    | refine aCall_ret (L := []) rfl rfl rfl sr rfl rfl rfl rfl ?_
    | refine aCall_ret (L := []) rfl rfl rfl w1.r rfl rfl rfl rfl ?_
    | refine aCall_ret (L := []) rfl rfl rfl w2.r rfl rfl rfl rfl ?_
  refine hK _ ?_; clear hK hp K pan; refine awp_norm [6, 7, 10, 11] rfl rfl ?_; refine awp_seq ?_; refine rgn fun pan K hp hK => ?_; show aCall _ _ _ _ _ _ _
  first
    | refine aCall_ret (L := []) rfl rfl rfl w1.w rfl rfl rfl rfl ?_
    | refine aCall_ret (L := []) rfl rfl rfl w2.w rfl rfl rfl rfl ?_
  refine hK _ ?_; clear hK hp K pan; refine awp_norm [6, 7, 10, 11, 12, 13] rfl rfl ?_; refine awp_seq ?_
  refine (awp_draw TT_ok mixed p5_17 [15, 16] (fun _ => true) (by kernel_rfl) fun pan K hp hK => ?_)
  refine onB_intro (fun h2 => ?_) (fun h2 => ?_)
  · show aCall _ _ _ _ _ _ _
    first
      | refine aCall_ret (L := []) rfl rfl rfl w1.b rfl rfl rfl rfl ?_
      | refine aCall_ret (L := []) rfl rfl rfl w2.b rfl rfl rfl rfl ?_
    show aCall _ _ _ _ _ _ _
    first
      | refine aCall_ret (L := []) rfl rfl rfl w1.b rfl rfl rfl rfl ?_
      | refine aCall_ret (L := []) rfl rfl rfl w2.b rfl rfl rfl rfl ?_
    show aCall _ _ _ _ _ _ _
    first
      | refine aCall_ret (L := []) rfl rfl rfl w1.s rfl rfl rfl rfl ?_
      | refine aCall_ret (L := []) rfl rfl rfl w2.s rfl rfl rfl rfl ?_
    refine hK _ ?_; clear hK hp K pan; refine awp_norm [4] rfl rfl ?_; refine awp_ret ?_
    exact ⟨_, [], _, [.d (.s (.bool true))], rfl, rfl, rfl, rfl, rfl, by (first | exact PWs.refl _ | (simp; exact PWs.refl _)), rfl⟩
  simp at h2
theorem twice_ok_no (hE : ErrsOk t u) (p : Pg) (hw : wtPg p ≤ 400000000) (s : ByteArray) (hz : s.size ≤ 2000) (t1 : ByteArray) (w1 : Wr t u p t1) (g : Pg) (sr : Spec Tryz.prog (GV t u) 16 [.d (str s)] [] (.ret (.tup [encP g, .d (.s .nilIface)])) []) (w2 : NoT t u g) : Spec Tryz.prog (GV t u) 5 [.d (.agg p.cs), .d (str s)] [] (.ret (.d (.s (.bool true)))) [] := by
  have sc : Spec Tryz.prog (GV t u) 25 [.d (.s (.iface (t 1) (u 1))), .d (num 3)] [] (.ret (.d (.s (.bool true)))) [] := coded_err hE 1 (by decide) 3
  refine spec_of_awp2 TT_ok (N := 91) Tryz.func5 rfl (by rfl) (Nat.le_refl _) rfl ?_
  refine awp_seq ?_; refine rgn fun pan K hp hK => ?_; refine hK _ ?_; clear hK hp K pan; refine awp_norm [1, 2] rfl rfl ?_; refine awp_seq ?_; refine rgn fun pan K hp hK => ?_; show aCall _ _ _ _ _ _ _
  refine aCall_ret (L := []) rfl rfl rfl (one_true t u) rfl rfl rfl rfl ?_
  refine hK _ ?_; clear hK hp K pan; refine awp_norm [1, 2, 5] rfl rfl ?_; refine awp_seq ?_; refine awp_seq ?_; refine rgn fun pan K hp hK => ?_; refine hK _ ?_; clear hK hp K pan; refine awp_norm [1, 2, 5, 21] rfl rfl ?_
  refine awp_cond2 rfl (onB_intro (fun h1 => ?_) (fun h1 => ?_))
  · have q1 := of_decide_eq_true h1
    omega
  refine awp_skip ?_; refine awp_seq ?_; refine rgn fun pan K hp hK => ?_; show aCall _ _ _ _ _ _ _
  refine aCall_ret (L := []) rfl rfl rfl (programOf_spec _ p (by omega)) rfl rfl rfl rfl ?_
  show aCall _ _ _ _ _ _ _
  first
    | refine aCall_ret (L := []) rfl rfl rfl w1.w rfl rfl rfl rfl ?_
    | refine aCall_ret (L := []) rfl rfl rfl w2.w rfl rfl rfl rfl ?_
  refine hK _ ?_; clear hK hp K pan; refine awp_norm [1, 2, 6, 7] rfl rfl ?_; refine awp_seq ?_; refine awp_seq ?_; refine rgn fun pan K hp hK => ?_; refine hK _ ?_; clear hK hp K pan; refine awp_norm [1, 2, 6, 30] rfl rfl ?_; refine awp_cond rfl ?_; refine awp_seq ?_; refine rgn fun pan K hp hK => ?_; show aCall _ _ _ _ _ _ _
  first
    | refine aCall_ret (L := []) rfl rfl rfl sr rfl rfl rfl rfl ?_
    | refine aCall_ret (L := []) rfl rfl rfl w1.r rfl rfl rfl rfl ?_
  refine hK _ ?_; clear hK hp K pan; refine awp_norm [1, 2, 8, 9] rfl rfl ?_; refine awp_seq ?_
  refine (awp_draw TT_ok mixed p5_7 [6] (fun _ => true) (by kernel_rfl) fun pan K hp hK => ?_)
  show aCall _ _ _ _ _ _ _
  refine aCall_ret (L := []) rfl rfl rfl w1.b rfl rfl rfl rfl ?_
  show aCall _ _ _ _ _ _ _
  refine aCall_ret (L := []) rfl rfl rfl w1.s rfl rfl rfl rfl ?_
  refine hK _ ?_; clear hK hp K pan; refine awp_norm [1, 44] rfl rfl ?_; refine awp_cond rfl ?_; refine awp_skip ?_; refine awp_seq ?_; refine rgn fun pan K hp hK => ?_; show aCall _ _ _ _ _ _ _
  first
    | refine aCall_ret (L := []) rfl rfl rfl sr rfl rfl rfl rfl ?_
    | refine aCall_ret (L := []) rfl rfl rfl w1.r rfl rfl rfl rfl ?_
  refine hK _ ?_; clear hK hp K pan; refine awp_norm [7, 10] rfl rfl ?_; refine awp_seq ?_; refine awp_seq ?_; refine rgn fun pan K hp hK => ?_; refine hK _ ?_; clear hK hp K pan; refine awp_norm [10, 51] rfl rfl ?_; refine awp_cond rfl ?_; refine awp_skip ?_; refine awp_seq ?_; refine rgn fun pan K hp hK => ?_; show aCall _ _ _ _ _ _ _
  first
    | refine aCall_ret (L := []) rfl rfl rfl w1.w rfl rfl rfl rfl ?_
    | refine aCall_ret (L := []) rfl rfl rfl w2.w rfl rfl rfl rfl ?_
  refine hK _ ?_; clear hK hp K pan; refine awp_norm [6, 7, 10] rfl rfl ?_; refine awp_seq ?_; refine awp_seq ?_; refine rgn fun pan K hp hK => ?_; refine hK _ ?_; clear hK hp K pan; refine awp_norm [6, 7, 10, 60] rfl rfl ?_; refine awp_cond rfl ?_; refine awp_seq ?_; refine rgn fun pan K hp hK => ?_; show aCall _ _ _ _ _ _ _
  refine aCall_ret (L := []) rfl rfl rfl sc rfl rfl rfl rfl ?_
  refine hK _ ?_; clear hK hp K pan; refine awp_norm [4] rfl rfl ?_; refine awp_ret ?_
  exact ⟨_, [], _, [.d (.s (.bool true))], rfl, rfl, rfl, rfl, rfl, by (first | exact PWs.refl _ | (simp; exact PWs.refl _)), rfl⟩
theorem twice_no_bad (p : Pg) (hw : wtPg p ≤ 400000000) (s : ByteArray) (hz : s.size ≤ 2000) (w0 : NoT t u p) (i : Int) (k : Nat) (sr : Spec Tryz.prog (GV t u) 16 [.d (str s)] [] (.ret (.tup [encP zPg, .ifc 128 (.box 0 0)])) [flt i (t k) (u k)]) : Spec Tryz.prog (GV t u) 5 [.d (.agg p.cs), .d (str s)] [] (.ret (.d (.s (.bool true)))) [] := by
  have sn := noProg_spec (GV t u)
  refine spec_of_awp2 TT_ok (N := 91) Tryz.func5 rfl (by rfl) (Nat.le_refl _) rfl ?_
  refine awp_seq ?_; refine rgn fun pan K hp hK => ?_; refine hK _ ?_; clear hK hp K pan; refine awp_norm [1, 2] rfl rfl ?_; refine awp_seq ?_; refine rgn fun pan K hp hK => ?_; show aCall _ _ _ _ _ _ _
  refine aCall_ret (L := []) rfl rfl rfl (one_true t u) rfl rfl rfl rfl ?_
  refine hK _ ?_; clear hK hp K pan; refine awp_norm [1, 2, 5] rfl rfl ?_; refine awp_seq ?_; refine awp_seq ?_; refine rgn fun pan K hp hK => ?_; refine hK _ ?_; clear hK hp K pan; refine awp_norm [1, 2, 5, 21] rfl rfl ?_
  refine awp_cond2 rfl (onB_intro (fun h1 => ?_) (fun h1 => ?_))
  · have q1 := of_decide_eq_true h1
    omega
  refine awp_skip ?_; refine awp_seq ?_; refine rgn fun pan K hp hK => ?_; show aCall _ _ _ _ _ _ _
  refine aCall_ret (L := []) rfl rfl rfl (programOf_spec _ p (by omega)) rfl rfl rfl rfl ?_
  show aCall _ _ _ _ _ _ _
  refine aCall_ret (L := []) rfl rfl rfl w0.w rfl rfl rfl rfl ?_
  refine hK _ ?_; clear hK hp K pan; refine awp_norm [1, 2, 6, 7] rfl rfl ?_; refine awp_seq ?_; refine awp_seq ?_; refine rgn fun pan K hp hK => ?_; refine hK _ ?_; clear hK hp K pan; refine awp_norm [1, 2, 6, 30] rfl rfl ?_; refine awp_cond rfl ?_; refine awp_skip ?_; refine awp_seq ?_; refine rgn fun pan K hp hK => ?_; show aCall _ _ _ _ _ _ _
  refine aCall_ret (L := []) rfl rfl rfl sr rfl rfl rfl rfl ?_
  refine hK _ ?_; clear hK hp K pan; refine awp_norm [7, 10] rfl rfl ?_; refine awp_seq ?_; refine awp_seq ?_; refine rgn fun pan K hp hK => ?_; refine hK _ ?_; clear hK hp K pan; refine awp_norm [10, 51] rfl rfl ?_; refine awp_cond rfl ?_; refine awp_seq ?_; refine rgn fun pan K hp hK => ?_; show aCall _ _ _ _ _ _ _
  refine aCall_ret (L := []) rfl rfl rfl sn rfl rfl rfl rfl ?_
  refine hK _ ?_; clear hK hp K pan; refine awp_norm [4] rfl rfl ?_; refine awp_ret ?_
  exact ⟨_, [], _, [.d (.s (.bool true))], rfl, rfl, rfl, rfl, rfl, by (first | exact PWs.refl _ | (simp; exact PWs.refl _)), rfl⟩
theorem twice_no_ok (hE : ErrsOk t u) (p : Pg) (hw : wtPg p ≤ 400000000) (s : ByteArray) (hz : s.size ≤ 2000) (w0 : NoT t u p) (g : Pg) (sr : Spec Tryz.prog (GV t u) 16 [.d (str s)] [] (.ret (.tup [encP g, .d (.s .nilIface)])) []) (t2 : ByteArray) (w2 : Wr t u g t2) : Spec Tryz.prog (GV t u) 5 [.d (.agg p.cs), .d (str s)] [] (.ret (.d (.s (.bool true)))) [] := by
  have sc : Spec Tryz.prog (GV t u) 25 [.d (.s (.iface (t 1) (u 1))), .d (num 3)] [] (.ret (.d (.s (.bool true)))) [] := coded_err hE 1 (by decide) 3
  refine spec_of_awp2 TT_ok (N := 91) Tryz.func5 rfl (by rfl) (Nat.le_refl _) rfl ?_
  refine awp_seq ?_; refine rgn fun pan K hp hK => ?_; refine hK _ ?_; clear hK hp K pan; refine awp_norm [1, 2] rfl rfl ?_; refine awp_seq ?_; refine rgn fun pan K hp hK => ?_; show aCall _ _ _ _ _ _ _
  refine aCall_ret (L := []) rfl rfl rfl (one_true t u) rfl rfl rfl rfl ?_
  refine hK _ ?_; clear hK hp K pan; refine awp_norm [1, 2, 5] rfl rfl ?_; refine awp_seq ?_; refine awp_seq ?_; refine rgn fun pan K hp hK => ?_; refine hK _ ?_; clear hK hp K pan; refine awp_norm [1, 2, 5, 21] rfl rfl ?_
  refine awp_cond2 rfl (onB_intro (fun h1 => ?_) (fun h1 => ?_))
  · have q1 := of_decide_eq_true h1
    omega
  refine awp_skip ?_; refine awp_seq ?_; refine rgn fun pan K hp hK => ?_; show aCall _ _ _ _ _ _ _
  refine aCall_ret (L := []) rfl rfl rfl (programOf_spec _ p (by omega)) rfl rfl rfl rfl ?_
  show aCall _ _ _ _ _ _ _
  first
    | refine aCall_ret (L := []) rfl rfl rfl w0.w rfl rfl rfl rfl ?_
    | refine aCall_ret (L := []) rfl rfl rfl w2.w rfl rfl rfl rfl ?_
  refine hK _ ?_; clear hK hp K pan; refine awp_norm [1, 2, 6, 7] rfl rfl ?_; refine awp_seq ?_; refine awp_seq ?_; refine rgn fun pan K hp hK => ?_; refine hK _ ?_; clear hK hp K pan; refine awp_norm [1, 2, 6, 30] rfl rfl ?_; refine awp_cond rfl ?_; refine awp_skip ?_; refine awp_seq ?_; refine rgn fun pan K hp hK => ?_; show aCall _ _ _ _ _ _ _
  first
    | refine aCall_ret (L := []) rfl rfl rfl sr rfl rfl rfl rfl ?_
    | refine aCall_ret (L := []) rfl rfl rfl w2.r rfl rfl rfl rfl ?_
  refine hK _ ?_; clear hK hp K pan; refine awp_norm [7, 10] rfl rfl ?_; refine awp_seq ?_; refine awp_seq ?_; refine rgn fun pan K hp hK => ?_; refine hK _ ?_; clear hK hp K pan; refine awp_norm [10, 51] rfl rfl ?_; refine awp_cond rfl ?_; refine awp_skip ?_; refine awp_seq ?_; refine rgn fun pan K hp hK => ?_; show aCall _ _ _ _ _ _ _
  first
    | refine aCall_ret (L := []) rfl rfl rfl w0.w rfl rfl rfl rfl ?_
    | refine aCall_ret (L := []) rfl rfl rfl w2.w rfl rfl rfl rfl ?_
  refine hK _ ?_; clear hK hp K pan; refine awp_norm [6, 7, 10] rfl rfl ?_; refine awp_seq ?_; refine awp_seq ?_; refine rgn fun pan K hp hK => ?_; refine hK _ ?_; clear hK hp K pan; refine awp_norm [6, 7, 10, 60] rfl rfl ?_; refine awp_cond rfl ?_; refine awp_skip ?_; refine awp_seq ?_; refine rgn fun pan K hp hK => ?_; show aCall _ _ _ _ _ _ _
  first
    | refine aCall_ret (L := []) rfl rfl rfl sr rfl rfl rfl rfl ?_
    | refine aCall_ret (L := []) rfl rfl rfl w2.r rfl rfl rfl rfl ?_
  refine hK _ ?_; clear hK hp K pan; refine awp_norm [6, 7, 10, 11] rfl rfl ?_; refine awp_seq ?_; refine rgn fun pan K hp hK => ?_; show aCall _ _ _ _ _ _ _
  first
    | refine aCall_ret (L := []) rfl rfl rfl w0.w rfl rfl rfl rfl ?_
    | refine aCall_ret (L := []) rfl rfl rfl w2.w rfl rfl rfl rfl ?_
  refine hK _ ?_; clear hK hp K pan; refine awp_norm [6, 7, 10, 11, 12, 13] rfl rfl ?_; refine awp_seq ?_
  refine (awp_draw TT_ok mixed p5_17 [15, 16] (fun _ => true) (by kernel_rfl) fun pan K hp hK => ?_)
  refine onB_intro (fun h2 => ?_) (fun h2 => ?_)
  · show aCall _ _ _ _ _ _ _
    refine aCall_ret (L := []) rfl rfl rfl w2.b rfl rfl rfl rfl ?_
    show aCall _ _ _ _ _ _ _
    refine aCall_ret (L := []) rfl rfl rfl w2.b rfl rfl rfl rfl ?_
    show aCall _ _ _ _ _ _ _
    refine aCall_ret (L := []) rfl rfl rfl w2.s rfl rfl rfl rfl ?_
    refine hK _ ?_; clear hK hp K pan; refine awp_norm [4] rfl rfl ?_; refine awp_ret ?_
    exact ⟨_, [], _, [.d (.s (.bool true))], rfl, rfl, rfl, rfl, rfl, by (first | exact PWs.refl _ | (simp; exact PWs.refl _)), rfl⟩
  simp at h2
theorem twice_no_no (hE : ErrsOk t u) (p : Pg) (hw : wtPg p ≤ 400000000) (s : ByteArray) (hz : s.size ≤ 2000) (w0 : NoT t u p) (g : Pg) (sr : Spec Tryz.prog (GV t u) 16 [.d (str s)] [] (.ret (.tup [encP g, .d (.s .nilIface)])) []) (w2 : NoT t u g) : Spec Tryz.prog (GV t u) 5 [.d (.agg p.cs), .d (str s)] [] (.ret (.d (.s (.bool true)))) [] := by
  have sc : Spec Tryz.prog (GV t u) 25 [.d (.s (.iface (t 1) (u 1))), .d (num 3)] [] (.ret (.d (.s (.bool true)))) [] := coded_err hE 1 (by decide) 3
  refine spec_of_awp2 TT_ok (N := 91) Tryz.func5 rfl (by rfl) (Nat.le_refl _) rfl ?_
  refine awp_seq ?_; refine rgn fun pan K hp hK => ?_; refine hK _ ?_; clear hK hp K pan; refine awp_norm [1, 2] rfl rfl ?_; refine awp_seq ?_; refine rgn fun pan K hp hK => ?_; show aCall _ _ _ _ _ _ _
  refine aCall_ret (L := []) rfl rfl rfl (one_true t u) rfl rfl rfl rfl ?_
  refine hK _ ?_; clear hK hp K pan; refine awp_norm [1, 2, 5] rfl rfl ?_; refine awp_seq ?_; refine awp_seq ?_; refine rgn fun pan K hp hK => ?_; refine hK _ ?_; clear hK hp K pan; refine awp_norm [1, 2, 5, 21] rfl rfl ?_
  refine awp_cond2 rfl (onB_intro (fun h1 => ?_) (fun h1 => ?_))
  · have q1 := of_decide_eq_true h1
    omega
  refine awp_skip ?_; refine awp_seq ?_; refine rgn fun pan K hp hK => ?_; show aCall _ _ _ _ _ _ _
  refine aCall_ret (L := []) rfl rfl rfl (programOf_spec _ p (by omega)) rfl rfl rfl rfl ?_
  show aCall _ _ _ _ _ _ _
  first
    | refine aCall_ret (L := []) rfl rfl rfl w0.w rfl rfl rfl rfl ?_
    | refine aCall_ret (L := []) rfl rfl rfl w2.w rfl rfl rfl rfl ?_
  refine hK _ ?_; clear hK hp K pan; refine awp_norm [1, 2, 6, 7] rfl rfl ?_; refine awp_seq ?_; refine awp_seq ?_; refine rgn fun pan K hp hK => ?_; refine hK _ ?_; clear hK hp K pan; refine awp_norm [1, 2, 6, 30] rfl rfl ?_; refine awp_cond rfl ?_; refine awp_skip ?_; refine awp_seq ?_; refine rgn fun pan K hp hK => ?_; show aCall _ _ _ _ _ _ _
  refine aCall_ret (L := []) rfl rfl rfl sr rfl rfl rfl rfl ?_
  refine hK _ ?_; clear hK hp K pan; refine awp_norm [7, 10] rfl rfl ?_; refine awp_seq ?_; refine awp_seq ?_; refine rgn fun pan K hp hK => ?_; refine hK _ ?_; clear hK hp K pan; refine awp_norm [10, 51] rfl rfl ?_; refine awp_cond rfl ?_; refine awp_skip ?_; refine awp_seq ?_; refine rgn fun pan K hp hK => ?_; show aCall _ _ _ _ _ _ _
  first
    | refine aCall_ret (L := []) rfl rfl rfl w0.w rfl rfl rfl rfl ?_
    | refine aCall_ret (L := []) rfl rfl rfl w2.w rfl rfl rfl rfl ?_
  refine hK _ ?_; clear hK hp K pan; refine awp_norm [6, 7, 10] rfl rfl ?_; refine awp_seq ?_; refine awp_seq ?_; refine rgn fun pan K hp hK => ?_; refine hK _ ?_; clear hK hp K pan; refine awp_norm [6, 7, 10, 60] rfl rfl ?_; refine awp_cond rfl ?_; refine awp_seq ?_; refine rgn fun pan K hp hK => ?_; show aCall _ _ _ _ _ _ _
  refine aCall_ret (L := []) rfl rfl rfl sc rfl rfl rfl rfl ?_
  refine hK _ ?_; clear hK hp K pan; refine awp_norm [4] rfl rfl ?_; refine awp_ret ?_
  exact ⟨_, [], _, [.d (.s (.bool true))], rfl, rfl, rfl, rfl, rfl, by (first | exact PWs.refl _ | (simp; exact PWs.refl _)), rfl⟩
end
end Go.Abs
end
section
namespace Go.Abs
open Go Go.Proofs
section
variable {t : Nat → TypeId} {u : Nat → Value}
/-- A program has a text, from which it is read again; or it has none. -/
theorem text_cases (n f : Nat) (p : Pg) (hok : okPg n f p = true) (hw : wtPg p ≤ 400000000) : (∃ t1, Wr t u p t1) ∨ NoT t u p := by
  have hl := textF_law' n f p hok (by omega)
  have sw : textF n f p ≠ .out → Spec Tryz.prog (GV t u) 22 [.d (.agg p.cs)] [] (.ret (outT t u (textF n f p))) [] := text_spec t u (itoa_ok t u) n f p
  cases hp : progI p with
  | none =>
    rw [hp] at hl
    rw [hl] at sw
    exact .inr ⟨sw (fun e => nomatch e)⟩
  | some y =>
    obtain ⟨t1, k⟩ := y
    rw [hp] at hl
    rcases Nat.lt_or_ge 4000 t1.size with hz | hz
    · simp only [decide_eq_false (show ¬ t1.size ≤ 4000 by omega)] at hl
      rw [hl] at sw
      exact .inr ⟨sw (fun e => nomatch e)⟩
    simp only [decide_eq_true hz] at hl
    rw [hl] at sw
    have pg := progG_ok 9900 t1 hz (by omega) 32020 (by omega) (nx t1 (p0 t1))
    rcases round_trip t1 p k hp 32020 with hr | ⟨q, hr⟩
    · rw [hr] at pg
      exact pg.elim
    rw [hr] at pg
    have pg : PgG 9900 p := pg
    exact .inl ⟨t1, sw (fun e => nomatch e), read_ok t u t1 hz 32020 (by decide) p q hr, back_spec _ p (bk_of pg), sameProg_spec _ (sameArrays_spec _) p (by omega)⟩
/-- The law, over pure values. -/
theorem langTwice_true (hE : ErrsOk t u) (n f : Nat) (p : Pg) (hok : okPg n f p = true) (hw : wtPg p ≤ 400000000) (s : ByteArray) : Spec Tryz.prog (GV t u) 5 [.d (.agg p.cs), .d (str s)] [] (.ret (.d (.s (.bool true)))) [] := by
  rcases Nat.lt_or_ge 2000 s.size with hz | hz
  · exact twice_long p s hz
  have pg := progG_ok 9900 s (by omega) (by omega) 32020 (by omega) (nx s (p0 s))
  cases hr : progF s 32020 (nx s (p0 s)) with
  | out =>
    rw [hr] at pg
    exact pg.elim
  | bad q c =>
    have rB := read_bad t u s (by omega) 32020 (by decide) q c hr
    rcases text_cases (t := t) (u := u) n f p hok hw with ⟨t1, w1⟩ | w0
    · exact twice_ok_bad p hw s hz t1 w1 _ _ rB
    exact twice_no_bad p hw s hz w0 _ _ rB
  | ok g q =>
    rw [hr] at pg
    have pg : PgG 9900 g := pg
    have rB := read_ok t u s (by omega) 32020 (by decide) g q hr
    rcases text_cases (t := t) (u := u) n f p hok hw with ⟨t1, w1⟩ | w0
    · rcases text_cases (t := t) (u := u) 9900 16003 g pg.ok (Nat.le_trans pg.wt (by decide)) with ⟨t2, w2⟩ | w2
      · exact twice_ok_ok hE p hw s hz t1 w1 g rB t2 w2
      exact twice_ok_no hE p hw s hz t1 w1 g rB w2
    rcases text_cases (t := t) (u := u) 9900 16003 g pg.ok (Nat.le_trans pg.wt (by decide)) with ⟨t2, w2⟩ | w2
    · exact twice_no_ok hE p hw s hz w0 g rB t2 w2
    exact twice_no_no hE p hw s hz w0 g rB w2
end
end Go.Abs
end
namespace Go.Abs
open Go Go.Proofs Go.Proofs.YtedljfabpknjiaaGreatDoor Go.ChangeShapes Go.WideShapes Go.ChangeAt Go.RowKit
set_option maxRecDepth 100000
theorem ownT : ownKnob Tryz.prog.godebug = none := by kernel_rfl
theorem laidOutT : laidOutB Tryz.prog = true := by kernel_rfl
theorem readT9 : Tryz.prog.readableRec 9 = true := by kernel_rfl
theorem size9 : 9 < Tryz.prog.types.size := of_decide_eq_true (by kernel_rfl)
theorem readT37 : Tryz.prog.readableRec 37 = true := by kernel_rfl
theorem size37 : 37 < Tryz.prog.types.size := of_decide_eq_true (by kernel_rfl)
theorem resT5 : Tryz.f5.resultTypes = #[4] := by kernel_rfl
theorem agg_of_cells {v : Value} {cs : List Value} (h : v.cells.toList = cs) (hl : cs.length = 4) : v = .agg cs.toArray := by
  subst h
  cases v <;> simp [Value.cells] at hl ⊢
theorem twice_contract (H : Type) (enc : TypeId × Value → H) (W : World) (base : Nat) (args : Array Value) (ds gs : List (DataW H)) (before : List MemPlace)
    (hval : ∀ (j : Nat) t v, Tryz.f5.params[j]? = some t → args[j]? = some v → Value.okWide Tryz.prog W .any base t v) (hW : DataW.Whole enc Tryz.prog Tryz.f5.params.toList Rows.langTwiceSpec.vars false W args.toList ds gs before) (hcond : Rows.uptoSmall H (ds ++ gs) = true) (hL : laidMetH Tryz.prog laidAll W) :
    Calls Tryz.prog 5 args W fun e W' => ∃ v, e = .returned v ∧ Rows.langTwiceSpec.post enc Tryz.prog Tryz.f5 false true false false W args v W' := by
  have hW' := hW
  obtain ⟨p, q, hA0, hV, rfl, hfz, hnd⟩ := hW
  have hA : DataW.TrodAll enc Tryz.prog W 0 (fun _ => true) true Tryz.f5.params.toList args.toList ds p := hA0
  rw [Tryz.params5] at hA
  obtain ⟨v0, v1, d0, d1, p0, p1, rfl, rfl, rfl, h0, h1⟩ := trodAll_two hA
  obtain ⟨rfl, rfl⟩ := trodVars_none hV
  have hL' := laidOk_of hL
  obtain ⟨n, h0'⟩ := h0
  obtain ⟨m, h1'⟩ := h1
  obtain ⟨g, hg1, hg2, hg3⟩ := rd_pg h0'
  have hb : Rows.uptoBulk d0 ≤ 1048576 := by
    have := of_decide_eq_true hcond
    simp [Rows.uptoBulkAll] at this
    omega
  have hl : v0.cells.toList.length = 4 := by
    obtain ⟨_, _, _, _, hl, _⟩ := DataW.trod_struct Tryz.underlying37 h0'
    rw [hl]
    exact c37
  have hv0 := agg_of_cells rfl hl
  obtain ⟨s, rfl⟩ := okWide_string Tryz.underlying9 (hval 1 9 v1 (by rw [Tryz.params5]; rfl) rfl)
  have hS := langTwice_true (errsOk_of hL') 10485760 10485760 g (hg3 _ (by simp only; omega)) (by have := hg2; simp only at this; omega) s
  have hc := hS.2.2 noRow (limOf W) W [v0, .string s] (noRow_ok _ _) (globOk_of hL') (by
    simp only [Vs, V, VD, str]
    exact ⟨v0, [.string s], rfl, ⟨_, hv0, hg1⟩, _, [], rfl, rfl, rfl⟩)
  refine Calls.mono hc ?_
  rintro e W' ⟨H', lim', _, hF, _, _, hO⟩
  obtain ⟨v, rfl, hv⟩ := hO
  simp only [V, VD] at hv
  subst hv
  simp only [List.append_nil] at hW'
  have keep0 : ∀ sp : Nat → Bool, (∀ x ∈ p0 ++ p1, sp x.block = true) → DataW.Trod enc Tryz.prog W' 0 sp true 37 v0 d0 p0 := fun sp hsp =>
    WideElems.Trod_stays laidOutT readT37 size37 ⟨n, h0'⟩ (fun x hx => same_of hF (hW'.lt x (List.mem_append_left _ hx))) (fun x hx => hsp x (List.mem_append_left _ hx))
  have keep1 : ∀ sp : Nat → Bool, (∀ x ∈ p0 ++ p1, sp x.block = true) → DataW.Trod enc Tryz.prog W' 0 sp true 9 (.string s) d1 p1 := fun sp hsp =>
    WideElems.Trod_stays laidOutT readT9 size9 ⟨m, h1'⟩ (fun x hx => same_of hF (hW'.lt x (List.mem_append_right _ hx))) (fun x hx => hsp x (List.mem_append_right _ hx))
  exact ⟨_, rfl, post_at (pa := p0 ++ p1) (pv := []) hW' (fun _ _ _ => trodAll_mk1 (shut_bool Tryz.underlying4 _)) (fun sp hsp => trodAll_mk2 (keep0 sp hsp) (keep1 sp hsp)) (fun _ _ => rfl) (by simp) hF (ok_one resT5 rfl (okWide_bool_mk Tryz.underlying4 _))⟩
noncomputable def args5 : Array Value := #[.agg #[.slice none 0 0, .slice none 0 0, .slice none 0 0, .slice none 0 0], .string ⟨#[]⟩]
theorem reads5 (os : Os) {H : Type} (enc : TypeId × Value → H) : ∃ ds places, DataW.whole enc Tryz.prog ((laidWorld os).forCall (fun _ _ => 0) ⟨#[], args5, []⟩).memory Tryz.f5.params.toList Rows.langTwiceSpec.vars false args5.toList 8 = some (ds, [], places) ∧ Rows.uptoSmall H (ds ++ []) = true :=
  ⟨[.agg [.nil, .nil, .nil, .nil], .lit (.string [])], [], by kernel_rfl, by kernel_rfl⟩
theorem twice_lifted (os : Os) (started : os.Started) (H : Type) (enc : TypeId × Value → H) (F : Stop.Interp) :
    ReturnsInHanded {} Tryz.checked os 5 .any ((Rows.OpenSpec.upto Rows.langTwiceSpec).preRow enc Tryz.prog Tryz.f5 Rows.langTwiceUptoRow.domain false Rows.langTwiceUptoRow.laid) (((Rows.OpenSpec.upto Rows.langTwiceSpec).at F).post enc Tryz.prog Tryz.f5 false true false false) := by
  obtain ⟨ds, places, hx, hk⟩ := reads5 os enc
  refine returnsInHanded_of_row (C := Tryz.checked) (s := Rows.OpenSpec.upto Rows.langTwiceSpec) ownT started (by kernel_rfl) Tryz.func5
    (witness_row_atRef (enc := enc) (C := Tryz.checked) false (laidWorld os) args5 rfl (laidWorld_vars os args5) (by kernel_rfl) (by kernel_rfl)
      (OpenSpec.preRow_of_cond 8 hx rfl (fun k hk' => by cases hk'; exact hk) (by kernel_rfl) (laidWorld_met os args5))) ?_
  intro W base args ds gs before hval hW _ hcond _ hL _ _
  exact twice_contract H enc W base args ds gs before hval hW (hcond _ rfl) hL
theorem twiceSaid : Rows.LangTwiceUptoSaid :=
  OpenClaim.holds_of_cond 5 Tryz.f5 rfl rfl rfl rfl rfl rfl rfl ⟨rfl, rfl, rfl, rfl, rfl⟩ rfl rfl rfl rfl rfl (by kernel_rfl) Tryz.func5 closed5
    (of_decide_eq_true (by kernel_rfl)) (by unfold Func.isWrapper; first | (rw [if_pos (by decide +kernel)]; kernel_rfl) | (rw [if_neg (by decide +kernel)]; exact ⟨rfl, rfl⟩))
    (fun os started H enc _ F => by rw [OpenClaim.pre_eq_preRow]; exact twice_lifted os started H enc F)
theorem twicePlain (f : FuncId) (fn : Func) (hf : Tryz.pinned.checked.prog.funcNamed "raycone/rayconelaw3.LangTwice" = some f) (hfn : Tryz.pinned.checked.prog.funcs[f]? = some fn) :
    true = Tryz.pinned.checked.prog.looks [] ∧ ∀ (j : Nat) t, fn.params[j]? = some t → Tryz.pinned.checked.prog.wantsStandIn t = false := by
  obtain rfl : f = 5 := Option.some.inj ((show Tryz.prog.funcNamed "raycone/rayconelaw3.LangTwice" = some 5 by kernel_rfl).symm.trans hf) |>.symm
  obtain rfl : fn = Tryz.f5 := (Option.some.inj (Tryz.func5.symm.trans hfn)).symm
  refine ⟨by kernel_rfl, fun j t ht => ?_⟩
  rw [Tryz.params5] at ht
  have ht' : t = 37 ∨ t = 9 := by simpa using Array.mem_of_getElem? ht
  rcases ht' with rfl | rfl
  · exact (show Tryz.prog.wantsStandIn 37 = false by kernel_rfl)
  exact (show Tryz.prog.wantsStandIn 9 = false by kernel_rfl)
end Go.Abs
namespace Go.Proofs.YtedljfabpknjiaaGreatDoor
open Go Go.Abs
theorem langTwiceCard : Rows.LangTwiceUptoCardSaid :=
  Claim7.holds_tied_plain_at .later [] _ _ _ _ twiceSaid (fun _ h => by cases h) (by kernel_rfl) (fun _ h => by cases h) langTwiceUpto_row_tie rfl ⟨rfl, rfl⟩ (by kernel_rfl) rfl twicePlain (by kernel_rfl)
end Go.Proofs.YtedljfabpknjiaaGreatDoor
#print axioms Go.Proofs.YtedljfabpknjiaaGreatDoor.langTwiceCard
