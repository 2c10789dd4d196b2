/- Texts of this proof, joined: AbsLH, AbsLI, AbsRH. -/
import Derived.Test.YtedljfabpknjiaaGreatDoorV14
import Derived.Test.YtedljfabpknjiaaGreatDoorV13
section
namespace Go.Abs
open Go Go.Proofs
theorem lenb (n : Nat) : decide ((n : Int) > 0) = !((n : Int) == 0) := by
 by_cases h : n = 0
 ·subst h; rfl
 rw [decide_eq_true (by omega)]
 have : ((n : Int) == 0) = false := by rw [beq_eq_false_iff_ne]; omega
 rw [this]
 rfl
theorem ok_set (name proc : ByteArray) (args : List Ex) (cond : List (List Ts)) (body els : List Sm) : (bareF true false true false false false (.mk (⟨#[115, 101, 116]⟩ : ByteArray) name proc args cond body els) && isNameF name) = !((bad1S (⟨#[115, 101, 116]⟩ : ByteArray) name proc || bad2S (⟨#[115, 101, 116]⟩ : ByteArray) cond body els) || bad3S (⟨#[115, 101, 116]⟩ : ByteArray) args) := by
 have e1 : namedS (⟨#[115, 101, 116]⟩ : ByteArray) = true := by kernel_rfl
 have e2 : asksS (⟨#[115, 101, 116]⟩ : ByteArray) = false := by kernel_rfl
 have e3 : blocksS (⟨#[115, 101, 116]⟩ : ByteArray) = false := by kernel_rfl
 have e4 : ((⟨#[115, 101, 116]⟩ : ByteArray).toList == (⟨#[99, 97, 108, 108]⟩ : ByteArray).toList) = false := by kernel_rfl
 have e5 : ((⟨#[115, 101, 116]⟩ : ByteArray).toList == (⟨#[105, 102]⟩ : ByteArray).toList) = false := by kernel_rfl
 have e6 : ((⟨#[115, 101, 116]⟩ : ByteArray).toList == (⟨#[114, 101, 97, 100]⟩ : ByteArray).toList) = false := by kernel_rfl
 unfold bad1S bad2S bad3S bareF
 simp only [e1, e2, e3, e4, e5, e6, nameG_eq, lenb]; have n1 := @nameG_emp name; have n2 := @nameG_emp proc
 cases h1 : isNameF name <;> cases h2 : isNameF proc <;> cases h3 : (name.toList == (⟨#[]⟩ : ByteArray).toList) <;> cases h4 : (proc.toList == (⟨#[]⟩ : ByteArray).toList) <;> cases (((exs args).length : Int) == 0) <;> cases (((cnd cond).length : Int) == 0) <;> cases (((sms body).length : Int) == 0) <;> cases (((sms els).length : Int) == 0) <;> first | rfl | (rw [h1, h3] at n1; exact absurd (n1 rfl) (by decide)) | (rw [h2, h4] at n2; exact absurd (n2 rfl) (by decide))
theorem ok_put (name proc : ByteArray) (args : List Ex) (cond : List (List Ts)) (body els : List Sm) : (bareF true false true false false false (.mk (⟨#[112, 117, 116]⟩ : ByteArray) name proc args cond body els) && isNameF name) = !((bad1S (⟨#[112, 117, 116]⟩ : ByteArray) name proc || bad2S (⟨#[112, 117, 116]⟩ : ByteArray) cond body els) || bad3S (⟨#[112, 117, 116]⟩ : ByteArray) args) := by
 have e1 : namedS (⟨#[112, 117, 116]⟩ : ByteArray) = true := by kernel_rfl
 have e2 : asksS (⟨#[112, 117, 116]⟩ : ByteArray) = false := by kernel_rfl
 have e3 : blocksS (⟨#[112, 117, 116]⟩ : ByteArray) = false := by kernel_rfl
 have e4 : ((⟨#[112, 117, 116]⟩ : ByteArray).toList == (⟨#[99, 97, 108, 108]⟩ : ByteArray).toList) = false := by kernel_rfl
 have e5 : ((⟨#[112, 117, 116]⟩ : ByteArray).toList == (⟨#[105, 102]⟩ : ByteArray).toList) = false := by kernel_rfl
 have e6 : ((⟨#[112, 117, 116]⟩ : ByteArray).toList == (⟨#[114, 101, 97, 100]⟩ : ByteArray).toList) = false := by kernel_rfl
 unfold bad1S bad2S bad3S bareF
 simp only [e1, e2, e3, e4, e5, e6, nameG_eq, lenb]; have n1 := @nameG_emp name; have n2 := @nameG_emp proc
 cases h1 : isNameF name <;> cases h2 : isNameF proc <;> cases h3 : (name.toList == (⟨#[]⟩ : ByteArray).toList) <;> cases h4 : (proc.toList == (⟨#[]⟩ : ByteArray).toList) <;> cases (((exs args).length : Int) == 0) <;> cases (((cnd cond).length : Int) == 0) <;> cases (((sms body).length : Int) == 0) <;> cases (((sms els).length : Int) == 0) <;> first | rfl | (rw [h1, h3] at n1; exact absurd (n1 rfl) (by decide)) | (rw [h2, h4] at n2; exact absurd (n2 rfl) (by decide))
theorem ok_call (name proc : ByteArray) (args : List Ex) (cond : List (List Ts)) (body els : List Sm) : ((bareF true true true false false false (.mk (⟨#[99, 97, 108, 108]⟩ : ByteArray) name proc args cond body els) && isNameF name) && isNameF proc) = !((bad1S (⟨#[99, 97, 108, 108]⟩ : ByteArray) name proc || bad2S (⟨#[99, 97, 108, 108]⟩ : ByteArray) cond body els) || bad3S (⟨#[99, 97, 108, 108]⟩ : ByteArray) args) := by
 have e1 : namedS (⟨#[99, 97, 108, 108]⟩ : ByteArray) = true := by kernel_rfl
 have e2 : asksS (⟨#[99, 97, 108, 108]⟩ : ByteArray) = false := by kernel_rfl
 have e3 : blocksS (⟨#[99, 97, 108, 108]⟩ : ByteArray) = false := by kernel_rfl
 have e4 : ((⟨#[99, 97, 108, 108]⟩ : ByteArray).toList == (⟨#[99, 97, 108, 108]⟩ : ByteArray).toList) = true := by kernel_rfl
 have e5 : ((⟨#[99, 97, 108, 108]⟩ : ByteArray).toList == (⟨#[105, 102]⟩ : ByteArray).toList) = false := by kernel_rfl
 have e6 : ((⟨#[99, 97, 108, 108]⟩ : ByteArray).toList == (⟨#[114, 101, 97, 100]⟩ : ByteArray).toList) = false := by kernel_rfl
 unfold bad1S bad2S bad3S bareF
 simp only [e1, e2, e3, e4, e5, e6, nameG_eq, lenb]; have n1 := @nameG_emp name; have n2 := @nameG_emp proc
 cases h1 : isNameF name <;> cases h2 : isNameF proc <;> cases h3 : (name.toList == (⟨#[]⟩ : ByteArray).toList) <;> cases h4 : (proc.toList == (⟨#[]⟩ : ByteArray).toList) <;> cases (((exs args).length : Int) == 0) <;> cases (((cnd cond).length : Int) == 0) <;> cases (((sms body).length : Int) == 0) <;> cases (((sms els).length : Int) == 0) <;> first | rfl | (rw [h1, h3] at n1; exact absurd (n1 rfl) (by decide)) | (rw [h2, h4] at n2; exact absurd (n2 rfl) (by decide))
theorem ok_if (name proc : ByteArray) (args : List Ex) (cond : List (List Ts)) (body els : List Sm) : bareF false false false true true true (.mk (⟨#[105, 102]⟩ : ByteArray) name proc args cond body els) = !((bad1S (⟨#[105, 102]⟩ : ByteArray) name proc || bad2S (⟨#[105, 102]⟩ : ByteArray) cond body els) || bad3S (⟨#[105, 102]⟩ : ByteArray) args) := by
 have e1 : namedS (⟨#[105, 102]⟩ : ByteArray) = false := by kernel_rfl
 have e2 : asksS (⟨#[105, 102]⟩ : ByteArray) = true := by kernel_rfl
 have e3 : blocksS (⟨#[105, 102]⟩ : ByteArray) = true := by kernel_rfl
 have e4 : ((⟨#[105, 102]⟩ : ByteArray).toList == (⟨#[99, 97, 108, 108]⟩ : ByteArray).toList) = false := by kernel_rfl
 have e5 : ((⟨#[105, 102]⟩ : ByteArray).toList == (⟨#[105, 102]⟩ : ByteArray).toList) = true := by kernel_rfl
 have e6 : ((⟨#[105, 102]⟩ : ByteArray).toList == (⟨#[114, 101, 97, 100]⟩ : ByteArray).toList) = false := by kernel_rfl
 unfold bad1S bad2S bad3S bareF
 simp only [e1, e2, e3, e4, e5, e6, nameG_eq, lenb]; have n1 := @nameG_emp name; have n2 := @nameG_emp proc
 cases h1 : isNameF name <;> cases h2 : isNameF proc <;> cases h3 : (name.toList == (⟨#[]⟩ : ByteArray).toList) <;> cases h4 : (proc.toList == (⟨#[]⟩ : ByteArray).toList) <;> cases (((exs args).length : Int) == 0) <;> cases (((cnd cond).length : Int) == 0) <;> cases (((sms body).length : Int) == 0) <;> cases (((sms els).length : Int) == 0) <;> first | rfl | (rw [h1, h3] at n1; exact absurd (n1 rfl) (by decide)) | (rw [h2, h4] at n2; exact absurd (n2 rfl) (by decide))
theorem ok_while (name proc : ByteArray) (args : List Ex) (cond : List (List Ts)) (body els : List Sm) : bareF false false false true true false (.mk (⟨#[119, 104, 105, 108, 101]⟩ : ByteArray) name proc args cond body els) = !((bad1S (⟨#[119, 104, 105, 108, 101]⟩ : ByteArray) name proc || bad2S (⟨#[119, 104, 105, 108, 101]⟩ : ByteArray) cond body els) || bad3S (⟨#[119, 104, 105, 108, 101]⟩ : ByteArray) args) := by
 have e1 : namedS (⟨#[119, 104, 105, 108, 101]⟩ : ByteArray) = false := by kernel_rfl
 have e2 : asksS (⟨#[119, 104, 105, 108, 101]⟩ : ByteArray) = true := by kernel_rfl
 have e3 : blocksS (⟨#[119, 104, 105, 108, 101]⟩ : ByteArray) = true := by kernel_rfl
 have e4 : ((⟨#[119, 104, 105, 108, 101]⟩ : ByteArray).toList == (⟨#[99, 97, 108, 108]⟩ : ByteArray).toList) = false := by kernel_rfl
 have e5 : ((⟨#[119, 104, 105, 108, 101]⟩ : ByteArray).toList == (⟨#[105, 102]⟩ : ByteArray).toList) = false := by kernel_rfl
 have e6 : ((⟨#[119, 104, 105, 108, 101]⟩ : ByteArray).toList == (⟨#[114, 101, 97, 100]⟩ : ByteArray).toList) = false := by kernel_rfl
 unfold bad1S bad2S bad3S bareF
 simp only [e1, e2, e3, e4, e5, e6, nameG_eq, lenb]; have n1 := @nameG_emp name; have n2 := @nameG_emp proc
 cases h1 : isNameF name <;> cases h2 : isNameF proc <;> cases h3 : (name.toList == (⟨#[]⟩ : ByteArray).toList) <;> cases h4 : (proc.toList == (⟨#[]⟩ : ByteArray).toList) <;> cases (((exs args).length : Int) == 0) <;> cases (((cnd cond).length : Int) == 0) <;> cases (((sms body).length : Int) == 0) <;> cases (((sms els).length : Int) == 0) <;> first | rfl | (rw [h1, h3] at n1; exact absurd (n1 rfl) (by decide)) | (rw [h2, h4] at n2; exact absurd (n2 rfl) (by decide))
theorem ok_assert (name proc : ByteArray) (args : List Ex) (cond : List (List Ts)) (body els : List Sm) : bareF false false false true false false (.mk (⟨#[97, 115, 115, 101, 114, 116]⟩ : ByteArray) name proc args cond body els) = !((bad1S (⟨#[97, 115, 115, 101, 114, 116]⟩ : ByteArray) name proc || bad2S (⟨#[97, 115, 115, 101, 114, 116]⟩ : ByteArray) cond body els) || bad3S (⟨#[97, 115, 115, 101, 114, 116]⟩ : ByteArray) args) := by
 have e1 : namedS (⟨#[97, 115, 115, 101, 114, 116]⟩ : ByteArray) = false := by kernel_rfl
 have e2 : asksS (⟨#[97, 115, 115, 101, 114, 116]⟩ : ByteArray) = true := by kernel_rfl
 have e3 : blocksS (⟨#[97, 115, 115, 101, 114, 116]⟩ : ByteArray) = false := by kernel_rfl
 have e4 : ((⟨#[97, 115, 115, 101, 114, 116]⟩ : ByteArray).toList == (⟨#[99, 97, 108, 108]⟩ : ByteArray).toList) = false := by kernel_rfl
 have e5 : ((⟨#[97, 115, 115, 101, 114, 116]⟩ : ByteArray).toList == (⟨#[105, 102]⟩ : ByteArray).toList) = false := by kernel_rfl
 have e6 : ((⟨#[97, 115, 115, 101, 114, 116]⟩ : ByteArray).toList == (⟨#[114, 101, 97, 100]⟩ : ByteArray).toList) = false := by kernel_rfl
 unfold bad1S bad2S bad3S bareF
 simp only [e1, e2, e3, e4, e5, e6, nameG_eq, lenb]; have n1 := @nameG_emp name; have n2 := @nameG_emp proc
 cases h1 : isNameF name <;> cases h2 : isNameF proc <;> cases h3 : (name.toList == (⟨#[]⟩ : ByteArray).toList) <;> cases h4 : (proc.toList == (⟨#[]⟩ : ByteArray).toList) <;> cases (((exs args).length : Int) == 0) <;> cases (((cnd cond).length : Int) == 0) <;> cases (((sms body).length : Int) == 0) <;> cases (((sms els).length : Int) == 0) <;> first | rfl | (rw [h1, h3] at n1; exact absurd (n1 rfl) (by decide)) | (rw [h2, h4] at n2; exact absurd (n2 rfl) (by decide))
theorem ok_assume (name proc : ByteArray) (args : List Ex) (cond : List (List Ts)) (body els : List Sm) : bareF false false false true false false (.mk (⟨#[97, 115, 115, 117, 109, 101]⟩ : ByteArray) name proc args cond body els) = !((bad1S (⟨#[97, 115, 115, 117, 109, 101]⟩ : ByteArray) name proc || bad2S (⟨#[97, 115, 115, 117, 109, 101]⟩ : ByteArray) cond body els) || bad3S (⟨#[97, 115, 115, 117, 109, 101]⟩ : ByteArray) args) := by
 have e1 : namedS (⟨#[97, 115, 115, 117, 109, 101]⟩ : ByteArray) = false := by kernel_rfl
 have e2 : asksS (⟨#[97, 115, 115, 117, 109, 101]⟩ : ByteArray) = true := by kernel_rfl
 have e3 : blocksS (⟨#[97, 115, 115, 117, 109, 101]⟩ : ByteArray) = false := by kernel_rfl
 have e4 : ((⟨#[97, 115, 115, 117, 109, 101]⟩ : ByteArray).toList == (⟨#[99, 97, 108, 108]⟩ : ByteArray).toList) = false := by kernel_rfl
 have e5 : ((⟨#[97, 115, 115, 117, 109, 101]⟩ : ByteArray).toList == (⟨#[105, 102]⟩ : ByteArray).toList) = false := by kernel_rfl
 have e6 : ((⟨#[97, 115, 115, 117, 109, 101]⟩ : ByteArray).toList == (⟨#[114, 101, 97, 100]⟩ : ByteArray).toList) = false := by kernel_rfl
 unfold bad1S bad2S bad3S bareF
 simp only [e1, e2, e3, e4, e5, e6, nameG_eq, lenb]; have n1 := @nameG_emp name; have n2 := @nameG_emp proc
 cases h1 : isNameF name <;> cases h2 : isNameF proc <;> cases h3 : (name.toList == (⟨#[]⟩ : ByteArray).toList) <;> cases h4 : (proc.toList == (⟨#[]⟩ : ByteArray).toList) <;> cases (((exs args).length : Int) == 0) <;> cases (((cnd cond).length : Int) == 0) <;> cases (((sms body).length : Int) == 0) <;> cases (((sms els).length : Int) == 0) <;> first | rfl | (rw [h1, h3] at n1; exact absurd (n1 rfl) (by decide)) | (rw [h2, h4] at n2; exact absurd (n2 rfl) (by decide))
theorem ok_read (name proc : ByteArray) (args : List Ex) (cond : List (List Ts)) (body els : List Sm) : (bareF true false false false false false (.mk (⟨#[114, 101, 97, 100]⟩ : ByteArray) name proc args cond body els) && isNameF name) = !((bad1S (⟨#[114, 101, 97, 100]⟩ : ByteArray) name proc || bad2S (⟨#[114, 101, 97, 100]⟩ : ByteArray) cond body els) || bad3S (⟨#[114, 101, 97, 100]⟩ : ByteArray) args) := by
 have e1 : namedS (⟨#[114, 101, 97, 100]⟩ : ByteArray) = true := by kernel_rfl
 have e2 : asksS (⟨#[114, 101, 97, 100]⟩ : ByteArray) = false := by kernel_rfl
 have e3 : blocksS (⟨#[114, 101, 97, 100]⟩ : ByteArray) = false := by kernel_rfl
 have e4 : ((⟨#[114, 101, 97, 100]⟩ : ByteArray).toList == (⟨#[99, 97, 108, 108]⟩ : ByteArray).toList) = false := by kernel_rfl
 have e5 : ((⟨#[114, 101, 97, 100]⟩ : ByteArray).toList == (⟨#[105, 102]⟩ : ByteArray).toList) = false := by kernel_rfl
 have e6 : ((⟨#[114, 101, 97, 100]⟩ : ByteArray).toList == (⟨#[114, 101, 97, 100]⟩ : ByteArray).toList) = true := by kernel_rfl
 unfold bad1S bad2S bad3S bareF
 simp only [e1, e2, e3, e4, e5, e6, nameG_eq, lenb]; have n1 := @nameG_emp name; have n2 := @nameG_emp proc
 cases h1 : isNameF name <;> cases h2 : isNameF proc <;> cases h3 : (name.toList == (⟨#[]⟩ : ByteArray).toList) <;> cases h4 : (proc.toList == (⟨#[]⟩ : ByteArray).toList) <;> cases (((exs args).length : Int) == 0) <;> cases (((cnd cond).length : Int) == 0) <;> cases (((sms body).length : Int) == 0) <;> cases (((sms els).length : Int) == 0) <;> first | rfl | (rw [h1, h3] at n1; exact absurd (n1 rfl) (by decide)) | (rw [h2, h4] at n2; exact absurd (n2 rfl) (by decide))
theorem lsp0 : (⟨#[105, 102, 32]⟩ : ByteArray) = (⟨#[105, 102]⟩ : ByteArray) ++ (⟨#[32]⟩ : ByteArray) := by kernel_rfl
theorem lsp1 : (⟨#[119, 104, 105, 108, 101, 32]⟩ : ByteArray) = (⟨#[119, 104, 105, 108, 101]⟩ : ByteArray) ++ (⟨#[32]⟩ : ByteArray) := by kernel_rfl
theorem lsp2 : (⟨#[32, 123, 10]⟩ : ByteArray) = (⟨#[32, 123]⟩ : ByteArray) ++ (⟨#[10]⟩ : ByteArray) := by kernel_rfl
theorem lsp3 : (⟨#[59, 10]⟩ : ByteArray) = (⟨#[59]⟩ : ByteArray) ++ (⟨#[10]⟩ : ByteArray) := by kernel_rfl
theorem lsp4 : (⟨#[125, 10]⟩ : ByteArray) = (⟨#[125]⟩ : ByteArray) ++ (⟨#[10]⟩ : ByteArray) := by kernel_rfl
theorem lsp5 : (⟨#[125, 32, 101, 108, 115, 101, 32, 123, 10]⟩ : ByteArray) = (⟨#[125, 32, 101, 108, 115, 101, 32, 123]⟩ : ByteArray) ++ (⟨#[10]⟩ : ByteArray) := by kernel_rfl
theorem lsp6 : (⟨#[41, 59, 10]⟩ : ByteArray) = (⟨#[41, 59]⟩ : ByteArray) ++ (⟨#[10]⟩ : ByteArray) := by kernel_rfl
theorem lsp7 : (⟨#[93, 59, 10]⟩ : ByteArray) = (⟨#[93, 59]⟩ : ByteArray) ++ (⟨#[10]⟩ : ByteArray) := by kernel_rfl
theorem lsp8 : (⟨#[41, 32, 123, 10]⟩ : ByteArray) = (⟨#[41, 32, 123]⟩ : ByteArray) ++ (⟨#[10]⟩ : ByteArray) := by kernel_rfl
theorem lsp9 : (⟨#[109, 97, 105, 110, 32, 123, 10]⟩ : ByteArray) = (⟨#[109, 97, 105, 110, 32, 123]⟩ : ByteArray) ++ (⟨#[10]⟩ : ByteArray) := by kernel_rfl
theorem lsp10 : (⟨#[59, 10, 125, 10]⟩ : ByteArray) = (⟨#[59, 10]⟩ : ByteArray) ++ (⟨#[125, 10]⟩ : ByteArray) := by kernel_rfl
theorem lsp11 : (⟨#[32, 32, 114, 101, 116, 117, 114, 110, 32]⟩ : ByteArray) = (⟨#[32, 32]⟩ : ByteArray) ++ (⟨#[114, 101, 116, 117, 114, 110, 32]⟩ : ByteArray) := by kernel_rfl
/-- The rest of a statement that has nothing beside what its kind names. -/
def stmtR (n : Nat) (B : List Sm → Int → GT) : Sm → Nat → GT
 | .mk kind name proc args cond body els, k => match asksS kind with
  | true => match condG n cond with
   | none => none
   | some (c, ok) => match chkS c with
    | false => none
    | true => match (!ok) with
     | true => some (⟨#[]⟩, false)
     | false => match (!blocksS kind) with
      | true => fitG ((((indent k ++ kind) ++ (⟨#[32]⟩ : ByteArray)) ++ c) ++ (⟨#[59, 10]⟩ : ByteArray)) true
      | false => match B body ((k : Int) + 1) with
       | none => none
       | some (bt, ok1) => match B els ((k : Int) + 1) with
        | none => none
        | some (et, ok2) => match chkS bt && chkS et with
         | false => none
         | true => fitG ((((((((indent k ++ kind) ++ (⟨#[32]⟩ : ByteArray)) ++ c) ++ (⟨#[32, 123, 10]⟩ : ByteArray)) ++ bt) ++ elseG els (indent k) et) ++ indent k) ++ (⟨#[125, 10]⟩ : ByteArray)) (ok1 && ok2)
  | false => match chkL args.length with
   | false => none
   | true => match listG n args 0 ⟨#[]⟩ with
    | none => none
    | some (l, ok) => match chkS l with
     | false => none
     | true => match (kind.toList == (⟨#[114, 101, 97, 100]⟩ : ByteArray).toList) with
      | true => fitG (((indent k ++ (⟨#[114, 101, 97, 100, 32]⟩ : ByteArray)) ++ name) ++ (⟨#[59, 10]⟩ : ByteArray)) true
      | false => match (kind.toList == (⟨#[99, 97, 108, 108]⟩ : ByteArray).toList) with
       | true => fitG ((((((indent k ++ name) ++ (⟨#[32, 61, 32, 99, 97, 108, 108, 32]⟩ : ByteArray)) ++ proc) ++ (⟨#[40]⟩ : ByteArray)) ++ l) ++ (⟨#[41, 59, 10]⟩ : ByteArray)) ok
       | false => match (kind.toList == (⟨#[115, 101, 116]⟩ : ByteArray).toList) with
        | true => fitG ((((indent k ++ name) ++ (⟨#[32, 61, 32]⟩ : ByteArray)) ++ l) ++ (⟨#[59, 10]⟩ : ByteArray)) (ok && (((exs args).length : Int) == 1))
        | false => match (kind.toList == (⟨#[112, 117, 116]⟩ : ByteArray).toList) with
         | true => match ((!ok) || (((exs args).length : Int) != 2)) with
          | true => some (⟨#[]⟩, false)
          | false => match args with
           | [x, y] => match exprG n x 1 1 with
            | none => none
            | some (a, _) => match exprG n y 1 1 with
             | none => none
             | some (b, _) => fitG ((((((indent k ++ name) ++ (⟨#[91]⟩ : ByteArray)) ++ a) ++ (⟨#[93, 32, 61, 32]⟩ : ByteArray)) ++ b) ++ (⟨#[59, 10]⟩ : ByteArray)) true
           | _ => none
         | false => some (⟨#[]⟩, false)
def badS (kind name proc : ByteArray) (args : List Ex) (cond : List (List Ts)) (body els : List Sm) : Bool := (bad1S kind name proc || bad2S kind cond body els) || bad3S kind args
theorem stmtB_rest (n : Nat) (B : List Sm → Int → GT) (kind name proc : ByteArray) (args : List Ex) (cond : List (List Ts)) (body els : List Sm) (k : Nat) (h1 : name.size ≤ 1073741824) (h2 : proc.size ≤ 1073741824) (h3 : kind.size ≤ 1073741824) (hk : (k : Int) ≤ 12) :
  stmtB n B (.mk kind name proc args cond body els) k = match badS kind name proc args cond body els with
   | true => some (⟨#[]⟩, false)
   | false => stmtR n B (.mk kind name proc args cond body els) k := by
 have hc : ((chkS name && chkS proc) && (chkS kind && decide (0 ≤ (k : Int)))) = true := by
  rw [chkS_yes h1, chkS_yes h2, chkS_yes h3, decide_eq_true (by omega)]
  rfl
 simp only [stmtB, hc, decide_eq_false (show ¬ (k : Int) > 12 by omega), Int.toNat_natCast, i64_id (x := (k : Int) + 1) (by omega) (by omega)]
 unfold badS
 cases bad1S kind name proc with
 | true => rfl
 | false => cases bad2S kind cond body els with
  | true => rfl
  | false => cases bad3S kind args <;> rfl
def BkG (n F : Nat) (B : List Sm → Int → GT) : Prop := ∀ (l : List Sm) (k : Nat), fuB l ≤ F → okB n l = true → wtB l ≤ 1000000000 → GP (has (blockI l k)) (wtB l) (B l (k : Int))
def StG (n F : Nat) (S : Sm → Int → GT) : Prop := ∀ (s : Sm) (k : Nat), fuS s ≤ F → okS n s = true → wtS s ≤ 1000000000 → GP (fun t => (k : Int) ≤ 12 ∧ has (stmtI s k) t) (wtS s) (S s (k : Int))
theorem blk_gr {n F : Nat} {S : Sm → Int → GT} (hS : StG n F S) : ∀ (l : List Sm) (k : Nat) (acc : ByteArray), fuB l ≤ F + 2 → okB n l = true → wtB l + acc.size ≤ 1000000000 → GP (fun t => ∃ u, has (blockI l k) u ∧ t = acc ++ u) (wtB l + acc.size) (blkL S l (k : Int) acc)
 | [], k, acc, _, _, _ => by
  simp only [blkL]; refine ⟨⟨_, _, rfl, by omega, fun _ => ⟨⟨#[]⟩, has_ret.2 rfl, ?_⟩, fun _ _ _ => rfl⟩⟩; apply ByteArray.ext
  simp
 | s :: r, k, acc, hf, hok, hw => by
  simp only [fuB] at hf; simp only [okB, Bool.and_eq_true] at hok; simp only [wtB] at hw ⊢; obtain ⟨t, ok, e, h1, h2, h3⟩ := (hS s k (by omega) hok.1 (by omega)).ex
  have hb : ∀ u, has (blockI (s :: r) k) u ↔ (k : Int) ≤ 12 ∧ ∃ a b, has (stmtI s k) a ∧ has (blockI r k) b ∧ u = a ++ b := by
   intro u; simp only [blockI]
   cases hk : decide ((k : Int) ≤ 12) with
   | false => exact ⟨fun q => absurd q has_none, fun q => absurd q.1 (of_decide_eq_false hk)⟩
   | true =>
    have hk := of_decide_eq_true hk; simp only; rw [has_bd]
    constructor
    ·rintro ⟨_, _, h⟩; exact ⟨hk, has_sq.1 h⟩
    rintro ⟨_, h⟩; exact ⟨(), ⟨1, rfl⟩, has_sq.2 h⟩
  simp only [blkL, e, chkS_yes (show t.size ≤ 1073741824 by omega)]
  cases hq : ((!ok) || decide ((acc.size : Int) > 4000)) with
  | true =>
   refine GP.no (fun x hx => ?_); obtain ⟨u, hu, rfl⟩ := hx; obtain ⟨hk, a, b, ha, hb', rfl⟩ := (hb u).1 hu; simp only [sz2]; simp only [Bool.or_eq_true, Bool.not_eq_true', decide_eq_true_eq] at hq
   rcases hq with q | q
   ·rcases Nat.lt_or_ge 4000 a.size with w | w
    ·omega
    have := h3 a ⟨hk, ha⟩ w; rw [q] at this; cases this
   omega
  | false =>
   simp only [Bool.or_eq_false_iff, Bool.not_eq_false'] at hq; obtain ⟨hk, hse⟩ := h2 hq.1; simp only [chkS_yes (show (acc ++ t).size ≤ 1073741824 by rw [sz2]; omega)]; refine (blk_gr hS r k (acc ++ t) (by omega) hok.2 (by rw [sz2]; omega)).congr (by rw [sz2]; omega) (fun x => ?_)
   constructor
   ·rintro ⟨u, hu, rfl⟩
    exact ⟨t ++ u, (hb _).2 ⟨hk, t, u, hse, hu, rfl⟩, by rw [ByteArray.append_assoc]⟩
   rintro ⟨u, hu, rfl⟩; obtain ⟨_, a, b, ha, hb', rfl⟩ := (hb u).1 hu; have := has_fun ha hse; subst this; exact ⟨b, hb', by rw [ByteArray.append_assoc]⟩
theorem gr_set {n F : Nat} {B : List Sm → Int → GT} (_hB : BkG n F B) (name proc : ByteArray) (args : List Ex) (cond : List (List Ts)) (body els : List Sm) (k : Nat) (hf : fuS (.mk (⟨#[115, 101, 116]⟩ : ByteArray) name proc args cond body els) ≤ F + 2) (hok : okS n (.mk (⟨#[115, 101, 116]⟩ : ByteArray) name proc args cond body els) = true) (hw : wtS (.mk (⟨#[115, 101, 116]⟩ : ByteArray) name proc args cond body els) ≤ 1000000000) (hk : (k : Int) ≤ 12) :
  GP (has (stmtI (.mk (⟨#[115, 101, 116]⟩ : ByteArray) name proc args cond body els) k)) (wtS (.mk (⟨#[115, 101, 116]⟩ : ByteArray) name proc args cond body els)) (match badS (⟨#[115, 101, 116]⟩ : ByteArray) name proc args cond body els with
   | true => some (⟨#[]⟩, false)
   | false => stmtR n B (.mk (⟨#[115, 101, 116]⟩ : ByteArray) name proc args cond body els) k) := by
 have hi := indent_size k
 have a1 : asksS (⟨#[115, 101, 116]⟩ : ByteArray) = false := by kernel_rfl
 have a2 : blocksS (⟨#[115, 101, 116]⟩ : ByteArray) = false := by kernel_rfl
 have b_read : ((⟨#[115, 101, 116]⟩ : ByteArray).toList == (⟨#[114, 101, 97, 100]⟩ : ByteArray).toList) = false := by kernel_rfl
 have b_call : ((⟨#[115, 101, 116]⟩ : ByteArray).toList == (⟨#[99, 97, 108, 108]⟩ : ByteArray).toList) = false := by kernel_rfl
 have b_set : ((⟨#[115, 101, 116]⟩ : ByteArray).toList == (⟨#[115, 101, 116]⟩ : ByteArray).toList) = true := by kernel_rfl
 have b_put : ((⟨#[115, 101, 116]⟩ : ByteArray).toList == (⟨#[112, 117, 116]⟩ : ByteArray).toList) = false := by kernel_rfl
 have c_set : ((⟨#[115, 101, 116]⟩ : ByteArray).toList == (⟨#[115, 101, 116]⟩ : ByteArray).toList) = true := by kernel_rfl
 have c_put : ((⟨#[115, 101, 116]⟩ : ByteArray).toList == (⟨#[112, 117, 116]⟩ : ByteArray).toList) = false := by kernel_rfl
 have c_call : ((⟨#[115, 101, 116]⟩ : ByteArray).toList == (⟨#[99, 97, 108, 108]⟩ : ByteArray).toList) = false := by kernel_rfl
 have c_if : ((⟨#[115, 101, 116]⟩ : ByteArray).toList == (⟨#[105, 102]⟩ : ByteArray).toList) = false := by kernel_rfl
 have c_while : ((⟨#[115, 101, 116]⟩ : ByteArray).toList == (⟨#[119, 104, 105, 108, 101]⟩ : ByteArray).toList) = false := by kernel_rfl
 have c_read : ((⟨#[115, 101, 116]⟩ : ByteArray).toList == (⟨#[114, 101, 97, 100]⟩ : ByteArray).toList) = false := by kernel_rfl
 have c_as : (((⟨#[115, 101, 116]⟩ : ByteArray).toList == (⟨#[97, 115, 115, 101, 114, 116]⟩ : ByteArray).toList) || ((⟨#[115, 101, 116]⟩ : ByteArray).toList == (⟨#[97, 115, 115, 117, 109, 101]⟩ : ByteArray).toList)) = false := by kernel_rfl
 have zl0 : (⟨#[105, 102]⟩ : ByteArray).size = 2 := rfl; have zl1 : (⟨#[119, 104, 105, 108, 101]⟩ : ByteArray).size = 5 := rfl; have zl2 : (⟨#[32]⟩ : ByteArray).size = 1 := rfl; have zl3 : (⟨#[59, 10]⟩ : ByteArray).size = 2 := rfl; have zl4 : (⟨#[32, 123, 10]⟩ : ByteArray).size = 3 := rfl; have zl5 : (⟨#[125, 10]⟩ : ByteArray).size = 2 := rfl; have zl6 : (⟨#[125, 32, 101, 108, 115, 101, 32, 123, 10]⟩ : ByteArray).size = 9 := rfl; have zl7 : (⟨#[114, 101, 97, 100, 32]⟩ : ByteArray).size = 5 := rfl; have zl8 : (⟨#[32, 61, 32, 99, 97, 108, 108, 32]⟩ : ByteArray).size = 8 := rfl; have zl9 : (⟨#[40]⟩ : ByteArray).size = 1 := rfl; have zl10 : (⟨#[41, 59, 10]⟩ : ByteArray).size = 3 := rfl; have zl11 : (⟨#[32, 61, 32]⟩ : ByteArray).size = 3 := rfl; have zl12 : (⟨#[91]⟩ : ByteArray).size = 1 := rfl; have zl13 : (⟨#[93, 32, 61, 32]⟩ : ByteArray).size = 4 := rfl; have zl14 : (⟨#[97, 115, 115, 101, 114, 116]⟩ : ByteArray).size = 6 := rfl; have zl15 : (⟨#[97, 115, 115, 117, 109, 101]⟩ : ByteArray).size = 6 := rfl; have zl16 : (⟨#[115, 101, 116]⟩ : ByteArray).size = 3 := rfl; have zl17 : (⟨#[112, 117, 116]⟩ : ByteArray).size = 3 := rfl; have zl18 : (⟨#[99, 97, 108, 108]⟩ : ByteArray).size = 4 := rfl; have zl19 : (⟨#[114, 101, 97, 100]⟩ : ByteArray).size = 4 := rfl; have hok' := ok_set name proc args cond body els; rw [show ((bad1S (⟨#[115, 101, 116]⟩ : ByteArray) name proc || bad2S (⟨#[115, 101, 116]⟩ : ByteArray) cond body els) || bad3S (⟨#[115, 101, 116]⟩ : ByteArray) args) = badS (⟨#[115, 101, 116]⟩ : ByteArray) name proc args cond body els from rfl] at hok'; have hfb := fuB_ge body; have hfe := fuB_ge els; have hl := wtL_len args; simp only [fuS] at hf; simp only [okS, Bool.and_eq_true, decide_eq_true_eq] at hok; simp only [wtS] at hw ⊢; rw [stmtI.eq_def]
 dsimp only
 cases hb : badS (⟨#[115, 101, 116]⟩ : ByteArray) name proc args cond body els with
 | true =>
  rw [hb] at hok'; simp only [Bool.not_true] at hok'; refine GP.no (fun t ht => ?_); simp only [c_set] at ht
  exfalso
  have g1 := has_grd.1 ht; have g2 := has_grd.1 g1.2; have g3 := g1.1; simp only [Bool.and_eq_true] at g3; rw [g3.1, g2.1] at hok'
  cases hok'
 | false =>
  rw [hb] at hok'; simp only [Bool.not_false] at hok'; simp only [stmtR, a1, b_read, b_call, b_set]; have hcl : chkL args.length = true := decide_eq_true (by omega); obtain ⟨l, ok, e, h1, h2, h3⟩ := (listJ_gr n args hok.1.1.1.2 hok.1.1.1.1 (by omega)).ex; simp only [hcl, e, chkS_yes (show l.size ≤ 1073741824 by omega)]; simp only [Bool.and_eq_true] at hok'; rw [hok'.1, hok'.2]; simp only [TM.grd, Bool.true_and]; refine GP.fit (by simp only [sz2]; omega) (by omega) (fun q => ?_) (fun t ht hs => ?_)
  ·simp only [Bool.and_eq_true] at q
   rw [q.2]; exact has_bd.2 ⟨l, h2 q.1, has_ret.2 (by simp only [lnI, lsp3, ByteArray.append_assoc])⟩
  cases hn : (((exs args).length : Int) == 1) with
  | false => rw [hn] at ht; exact absurd ht has_none
  | true =>
   rw [hn] at ht; obtain ⟨a, ha, hb⟩ := has_bd.1 ht; have hb := has_ret.1 hb; subst hb; simp only [lnI_size, sz2] at hs; rw [h3 a ha (by omega)]
   rfl
theorem gr_put {n F : Nat} {B : List Sm → Int → GT} (_hB : BkG n F B) (name proc : ByteArray) (args : List Ex) (cond : List (List Ts)) (body els : List Sm) (k : Nat) (hf : fuS (.mk (⟨#[112, 117, 116]⟩ : ByteArray) name proc args cond body els) ≤ F + 2) (hok : okS n (.mk (⟨#[112, 117, 116]⟩ : ByteArray) name proc args cond body els) = true) (hw : wtS (.mk (⟨#[112, 117, 116]⟩ : ByteArray) name proc args cond body els) ≤ 1000000000) (hk : (k : Int) ≤ 12) :
  GP (has (stmtI (.mk (⟨#[112, 117, 116]⟩ : ByteArray) name proc args cond body els) k)) (wtS (.mk (⟨#[112, 117, 116]⟩ : ByteArray) name proc args cond body els)) (match badS (⟨#[112, 117, 116]⟩ : ByteArray) name proc args cond body els with
   | true => some (⟨#[]⟩, false)
   | false => stmtR n B (.mk (⟨#[112, 117, 116]⟩ : ByteArray) name proc args cond body els) k) := by
 have hi := indent_size k
 have a1 : asksS (⟨#[112, 117, 116]⟩ : ByteArray) = false := by kernel_rfl
 have a2 : blocksS (⟨#[112, 117, 116]⟩ : ByteArray) = false := by kernel_rfl
 have b_read : ((⟨#[112, 117, 116]⟩ : ByteArray).toList == (⟨#[114, 101, 97, 100]⟩ : ByteArray).toList) = false := by kernel_rfl
 have b_call : ((⟨#[112, 117, 116]⟩ : ByteArray).toList == (⟨#[99, 97, 108, 108]⟩ : ByteArray).toList) = false := by kernel_rfl
 have b_set : ((⟨#[112, 117, 116]⟩ : ByteArray).toList == (⟨#[115, 101, 116]⟩ : ByteArray).toList) = false := by kernel_rfl
 have b_put : ((⟨#[112, 117, 116]⟩ : ByteArray).toList == (⟨#[112, 117, 116]⟩ : ByteArray).toList) = true := by kernel_rfl
 have c_set : ((⟨#[112, 117, 116]⟩ : ByteArray).toList == (⟨#[115, 101, 116]⟩ : ByteArray).toList) = false := by kernel_rfl
 have c_put : ((⟨#[112, 117, 116]⟩ : ByteArray).toList == (⟨#[112, 117, 116]⟩ : ByteArray).toList) = true := by kernel_rfl
 have c_call : ((⟨#[112, 117, 116]⟩ : ByteArray).toList == (⟨#[99, 97, 108, 108]⟩ : ByteArray).toList) = false := by kernel_rfl
 have c_if : ((⟨#[112, 117, 116]⟩ : ByteArray).toList == (⟨#[105, 102]⟩ : ByteArray).toList) = false := by kernel_rfl
 have c_while : ((⟨#[112, 117, 116]⟩ : ByteArray).toList == (⟨#[119, 104, 105, 108, 101]⟩ : ByteArray).toList) = false := by kernel_rfl
 have c_read : ((⟨#[112, 117, 116]⟩ : ByteArray).toList == (⟨#[114, 101, 97, 100]⟩ : ByteArray).toList) = false := by kernel_rfl
 have c_as : (((⟨#[112, 117, 116]⟩ : ByteArray).toList == (⟨#[97, 115, 115, 101, 114, 116]⟩ : ByteArray).toList) || ((⟨#[112, 117, 116]⟩ : ByteArray).toList == (⟨#[97, 115, 115, 117, 109, 101]⟩ : ByteArray).toList)) = false := by kernel_rfl
 have zl0 : (⟨#[105, 102]⟩ : ByteArray).size = 2 := rfl; have zl1 : (⟨#[119, 104, 105, 108, 101]⟩ : ByteArray).size = 5 := rfl; have zl2 : (⟨#[32]⟩ : ByteArray).size = 1 := rfl; have zl3 : (⟨#[59, 10]⟩ : ByteArray).size = 2 := rfl; have zl4 : (⟨#[32, 123, 10]⟩ : ByteArray).size = 3 := rfl; have zl5 : (⟨#[125, 10]⟩ : ByteArray).size = 2 := rfl; have zl6 : (⟨#[125, 32, 101, 108, 115, 101, 32, 123, 10]⟩ : ByteArray).size = 9 := rfl; have zl7 : (⟨#[114, 101, 97, 100, 32]⟩ : ByteArray).size = 5 := rfl; have zl8 : (⟨#[32, 61, 32, 99, 97, 108, 108, 32]⟩ : ByteArray).size = 8 := rfl; have zl9 : (⟨#[40]⟩ : ByteArray).size = 1 := rfl; have zl10 : (⟨#[41, 59, 10]⟩ : ByteArray).size = 3 := rfl; have zl11 : (⟨#[32, 61, 32]⟩ : ByteArray).size = 3 := rfl; have zl12 : (⟨#[91]⟩ : ByteArray).size = 1 := rfl; have zl13 : (⟨#[93, 32, 61, 32]⟩ : ByteArray).size = 4 := rfl; have zl14 : (⟨#[97, 115, 115, 101, 114, 116]⟩ : ByteArray).size = 6 := rfl; have zl15 : (⟨#[97, 115, 115, 117, 109, 101]⟩ : ByteArray).size = 6 := rfl; have zl16 : (⟨#[115, 101, 116]⟩ : ByteArray).size = 3 := rfl; have zl17 : (⟨#[112, 117, 116]⟩ : ByteArray).size = 3 := rfl; have zl18 : (⟨#[99, 97, 108, 108]⟩ : ByteArray).size = 4 := rfl; have zl19 : (⟨#[114, 101, 97, 100]⟩ : ByteArray).size = 4 := rfl; have hok' := ok_put name proc args cond body els; rw [show ((bad1S (⟨#[112, 117, 116]⟩ : ByteArray) name proc || bad2S (⟨#[112, 117, 116]⟩ : ByteArray) cond body els) || bad3S (⟨#[112, 117, 116]⟩ : ByteArray) args) = badS (⟨#[112, 117, 116]⟩ : ByteArray) name proc args cond body els from rfl] at hok'; have hfb := fuB_ge body; have hfe := fuB_ge els; have hl := wtL_len args; simp only [fuS] at hf; simp only [okS, Bool.and_eq_true, decide_eq_true_eq] at hok; simp only [wtS] at hw ⊢; rw [stmtI.eq_def]
 dsimp only
 cases hb : badS (⟨#[112, 117, 116]⟩ : ByteArray) name proc args cond body els with
 | true =>
  rw [hb] at hok'; simp only [Bool.not_true] at hok'; refine GP.no (fun t ht => ?_); simp only [c_set, c_put] at ht
  exfalso
  have g1 := has_grd.1 ht; have g2 := has_grd.1 g1.2; have g3 := g1.1; simp only [Bool.and_eq_true] at g3; rw [g3.1, g2.1] at hok'
  cases hok'
 | false =>
  rw [hb] at hok'; simp only [Bool.not_false] at hok'; simp only [stmtR, a1, b_read, b_call, b_set, b_put]; have hcl : chkL args.length = true := decide_eq_true (by omega); obtain ⟨l, ok, e, h1, h2, h3⟩ := (listJ_gr n args hok.1.1.1.2 hok.1.1.1.1 (by omega)).ex; simp only [hcl, e, chkS_yes (show l.size ≤ 1073741824 by omega)]; simp only [Bool.and_eq_true] at hok'; rw [hok'.1, hok'.2]; simp only [TM.grd, Bool.true_and, bne_eq]
  cases hn : (((exs args).length : Int) == 2) with
  | false =>
   simp only [Bool.not_false, Bool.or_true]; exact GP.no (fun t ht => absurd ht has_none)
  | true =>
   obtain ⟨x, y, rfl⟩ := ex_two (c := true) (by simpa using hn); simp only [Bool.not_true, Bool.or_false]; simp only [nmL, Bool.and_true, Bool.and_eq_true] at hok; have hfu := hok.1.1.1.2; simp only [fu_two] at hfu; simp only [wt_two] at hw ⊢; obtain ⟨a, oka, ea, g1, g2, g3⟩ := (expr_one n x (by omega) hok.1.1.1.1.1 (by omega)).ex; obtain ⟨b, okb, eb, f1, f2, f3⟩ := (expr_one n y (by omega) hok.1.1.1.1.2 (by omega)).ex
   have hlj : ∀ a b, has (exprI x 1 1) a → has (exprI y 1 1) b → has (listJ [x, y]) (joinB [a, b] ⟨#[44, 32]⟩) := by
    intro a b ha hb; exact has_bd.2 ⟨[a, b], has_bd.2 ⟨a, ha, has_bd.2 ⟨[b], has_bd.2 ⟨b, hb, has_bd.2 ⟨[], has_ret.2 rfl, has_ret.2 rfl⟩⟩, has_ret.2 rfl⟩⟩, has_ret.2 rfl⟩
   have hlj2 : ∀ t, has (listJ [x, y]) t → ∃ a b, has (exprI x 1 1) a ∧ has (exprI y 1 1) b := by
    intro t ht; obtain ⟨ss, h4, _⟩ := has_bd.1 ht; simp only [listI] at h4; obtain ⟨a, ha, h4⟩ := has_bd.1 h4; obtain ⟨_, h4, _⟩ := has_bd.1 h4; obtain ⟨b, hb, _⟩ := has_bd.1 h4; exact ⟨a, b, ha, hb⟩
   cases ok with
   | false =>
    simp only [Bool.not_false]; refine GP.no (fun t ht => ?_); obtain ⟨a', ha, hb1⟩ := has_bd.1 ht; obtain ⟨b', hb2, hc⟩ := has_bd.1 hb1; have hc := has_ret.1 hc; subst hc; have hj := hlj a' b' ha hb2
    have hjs : (joinB [a', b'] (⟨#[44, 32]⟩ : ByteArray)).size ≤ a'.size + b'.size + 4 := by
     have := joinB_size [a', b'] ⟨#[44, 32]⟩; have e2 : (⟨#[44, 32]⟩ : ByteArray).size = 2 := rfl; rw [e2] at this; simp only [ssz] at this; omega
    simp only [lnI_size, sz2]
    rcases Nat.lt_or_ge 4000 (joinB [a', b'] (⟨#[44, 32]⟩ : ByteArray)).size with w | w
    ·omega
    have := h3 _ hj w; cases this
   | true =>
    simp only [Bool.not_true]
    have hoa : oka = true := by
     cases oka with
     | true => rfl
     | false => simp only [listG, ea, Bool.not_false] at e; cases e
    subst hoa
    have hob : okb = true := by
     cases okb with
     | true => rfl
     | false =>
      simp only [listG, ea, eb, Bool.not_false, Bool.not_true] at e; split at e
      ·cases e
      cases e
    subst hob; simp only [ea, eb]; refine GP.fit (by simp only [sz2]; omega) (by omega) (fun q => ?_) (fun t ht hs => rfl); exact has_bd.2 ⟨a, g2 rfl, has_bd.2 ⟨b, f2 rfl, has_ret.2 (by simp only [lnI, lsp3, ByteArray.append_assoc])⟩⟩
theorem gr_call {n F : Nat} {B : List Sm → Int → GT} (_hB : BkG n F B) (name proc : ByteArray) (args : List Ex) (cond : List (List Ts)) (body els : List Sm) (k : Nat) (hf : fuS (.mk (⟨#[99, 97, 108, 108]⟩ : ByteArray) name proc args cond body els) ≤ F + 2) (hok : okS n (.mk (⟨#[99, 97, 108, 108]⟩ : ByteArray) name proc args cond body els) = true) (hw : wtS (.mk (⟨#[99, 97, 108, 108]⟩ : ByteArray) name proc args cond body els) ≤ 1000000000) (hk : (k : Int) ≤ 12) :
  GP (has (stmtI (.mk (⟨#[99, 97, 108, 108]⟩ : ByteArray) name proc args cond body els) k)) (wtS (.mk (⟨#[99, 97, 108, 108]⟩ : ByteArray) name proc args cond body els)) (match badS (⟨#[99, 97, 108, 108]⟩ : ByteArray) name proc args cond body els with
   | true => some (⟨#[]⟩, false)
   | false => stmtR n B (.mk (⟨#[99, 97, 108, 108]⟩ : ByteArray) name proc args cond body els) k) := by
 have hi := indent_size k
 have a1 : asksS (⟨#[99, 97, 108, 108]⟩ : ByteArray) = false := by kernel_rfl
 have a2 : blocksS (⟨#[99, 97, 108, 108]⟩ : ByteArray) = false := by kernel_rfl
 have b_read : ((⟨#[99, 97, 108, 108]⟩ : ByteArray).toList == (⟨#[114, 101, 97, 100]⟩ : ByteArray).toList) = false := by kernel_rfl
 have b_call : ((⟨#[99, 97, 108, 108]⟩ : ByteArray).toList == (⟨#[99, 97, 108, 108]⟩ : ByteArray).toList) = true := by kernel_rfl
 have b_set : ((⟨#[99, 97, 108, 108]⟩ : ByteArray).toList == (⟨#[115, 101, 116]⟩ : ByteArray).toList) = false := by kernel_rfl
 have b_put : ((⟨#[99, 97, 108, 108]⟩ : ByteArray).toList == (⟨#[112, 117, 116]⟩ : ByteArray).toList) = false := by kernel_rfl
 have c_set : ((⟨#[99, 97, 108, 108]⟩ : ByteArray).toList == (⟨#[115, 101, 116]⟩ : ByteArray).toList) = false := by kernel_rfl
 have c_put : ((⟨#[99, 97, 108, 108]⟩ : ByteArray).toList == (⟨#[112, 117, 116]⟩ : ByteArray).toList) = false := by kernel_rfl
 have c_call : ((⟨#[99, 97, 108, 108]⟩ : ByteArray).toList == (⟨#[99, 97, 108, 108]⟩ : ByteArray).toList) = true := by kernel_rfl
 have c_if : ((⟨#[99, 97, 108, 108]⟩ : ByteArray).toList == (⟨#[105, 102]⟩ : ByteArray).toList) = false := by kernel_rfl
 have c_while : ((⟨#[99, 97, 108, 108]⟩ : ByteArray).toList == (⟨#[119, 104, 105, 108, 101]⟩ : ByteArray).toList) = false := by kernel_rfl
 have c_read : ((⟨#[99, 97, 108, 108]⟩ : ByteArray).toList == (⟨#[114, 101, 97, 100]⟩ : ByteArray).toList) = false := by kernel_rfl
 have c_as : (((⟨#[99, 97, 108, 108]⟩ : ByteArray).toList == (⟨#[97, 115, 115, 101, 114, 116]⟩ : ByteArray).toList) || ((⟨#[99, 97, 108, 108]⟩ : ByteArray).toList == (⟨#[97, 115, 115, 117, 109, 101]⟩ : ByteArray).toList)) = false := by kernel_rfl
 have zl0 : (⟨#[105, 102]⟩ : ByteArray).size = 2 := rfl; have zl1 : (⟨#[119, 104, 105, 108, 101]⟩ : ByteArray).size = 5 := rfl; have zl2 : (⟨#[32]⟩ : ByteArray).size = 1 := rfl; have zl3 : (⟨#[59, 10]⟩ : ByteArray).size = 2 := rfl; have zl4 : (⟨#[32, 123, 10]⟩ : ByteArray).size = 3 := rfl; have zl5 : (⟨#[125, 10]⟩ : ByteArray).size = 2 := rfl; have zl6 : (⟨#[125, 32, 101, 108, 115, 101, 32, 123, 10]⟩ : ByteArray).size = 9 := rfl; have zl7 : (⟨#[114, 101, 97, 100, 32]⟩ : ByteArray).size = 5 := rfl; have zl8 : (⟨#[32, 61, 32, 99, 97, 108, 108, 32]⟩ : ByteArray).size = 8 := rfl; have zl9 : (⟨#[40]⟩ : ByteArray).size = 1 := rfl; have zl10 : (⟨#[41, 59, 10]⟩ : ByteArray).size = 3 := rfl; have zl11 : (⟨#[32, 61, 32]⟩ : ByteArray).size = 3 := rfl; have zl12 : (⟨#[91]⟩ : ByteArray).size = 1 := rfl; have zl13 : (⟨#[93, 32, 61, 32]⟩ : ByteArray).size = 4 := rfl; have zl14 : (⟨#[97, 115, 115, 101, 114, 116]⟩ : ByteArray).size = 6 := rfl; have zl15 : (⟨#[97, 115, 115, 117, 109, 101]⟩ : ByteArray).size = 6 := rfl; have zl16 : (⟨#[115, 101, 116]⟩ : ByteArray).size = 3 := rfl; have zl17 : (⟨#[112, 117, 116]⟩ : ByteArray).size = 3 := rfl; have zl18 : (⟨#[99, 97, 108, 108]⟩ : ByteArray).size = 4 := rfl; have zl19 : (⟨#[114, 101, 97, 100]⟩ : ByteArray).size = 4 := rfl; have hok' := ok_call name proc args cond body els; rw [show ((bad1S (⟨#[99, 97, 108, 108]⟩ : ByteArray) name proc || bad2S (⟨#[99, 97, 108, 108]⟩ : ByteArray) cond body els) || bad3S (⟨#[99, 97, 108, 108]⟩ : ByteArray) args) = badS (⟨#[99, 97, 108, 108]⟩ : ByteArray) name proc args cond body els from rfl] at hok'; have hfb := fuB_ge body; have hfe := fuB_ge els; have hl := wtL_len args; simp only [fuS] at hf; simp only [okS, Bool.and_eq_true, decide_eq_true_eq] at hok; simp only [wtS] at hw ⊢; rw [stmtI.eq_def]
 dsimp only
 cases hb : badS (⟨#[99, 97, 108, 108]⟩ : ByteArray) name proc args cond body els with
 | true =>
  rw [hb] at hok'; simp only [Bool.not_true] at hok'; refine GP.no (fun t ht => ?_); simp only [c_set, c_put, c_call] at ht
  exfalso
  have g1 := has_grd.1 ht; have g2 := has_grd.1 g1.2; have g3 := has_grd.1 g2.2; rw [g1.1, g2.1, g3.1] at hok'
  cases hok'
 | false =>
  rw [hb] at hok'; simp only [Bool.not_false] at hok'; simp only [stmtR, a1, b_read, b_call, b_set, b_put]; have hcl : chkL args.length = true := decide_eq_true (by omega); obtain ⟨l, ok, e, h1, h2, h3⟩ := (listJ_gr n args hok.1.1.1.2 hok.1.1.1.1 (by omega)).ex; simp only [hcl, e, chkS_yes (show l.size ≤ 1073741824 by omega)]; simp only [Bool.and_eq_true] at hok'; rw [hok'.1.1, hok'.1.2, hok'.2]; simp only [TM.grd]; refine GP.fit (by simp only [sz2]; omega) (by omega) (fun q => ?_) (fun t ht hs => ?_)
  ·exact has_bd.2 ⟨l, h2 q, has_ret.2 (by simp only [lnI, lsp6, ByteArray.append_assoc])⟩
  obtain ⟨a, ha, hb⟩ := has_bd.1 ht; have hb := has_ret.1 hb; subst hb; simp only [lnI_size, sz2] at hs; exact h3 a ha (by omega)
theorem gr_if {n F : Nat} {B : List Sm → Int → GT} (hB : BkG n F B) (name proc : ByteArray) (args : List Ex) (cond : List (List Ts)) (body els : List Sm) (k : Nat) (hf : fuS (.mk (⟨#[105, 102]⟩ : ByteArray) name proc args cond body els) ≤ F + 2) (hok : okS n (.mk (⟨#[105, 102]⟩ : ByteArray) name proc args cond body els) = true) (hw : wtS (.mk (⟨#[105, 102]⟩ : ByteArray) name proc args cond body els) ≤ 1000000000) (hk : (k : Int) ≤ 12) :
  GP (has (stmtI (.mk (⟨#[105, 102]⟩ : ByteArray) name proc args cond body els) k)) (wtS (.mk (⟨#[105, 102]⟩ : ByteArray) name proc args cond body els)) (match badS (⟨#[105, 102]⟩ : ByteArray) name proc args cond body els with
   | true => some (⟨#[]⟩, false)
   | false => stmtR n B (.mk (⟨#[105, 102]⟩ : ByteArray) name proc args cond body els) k) := by
 have hi := indent_size k
 have a1 : asksS (⟨#[105, 102]⟩ : ByteArray) = true := by kernel_rfl
 have a2 : blocksS (⟨#[105, 102]⟩ : ByteArray) = true := by kernel_rfl
 have b_read : ((⟨#[105, 102]⟩ : ByteArray).toList == (⟨#[114, 101, 97, 100]⟩ : ByteArray).toList) = false := by kernel_rfl
 have b_call : ((⟨#[105, 102]⟩ : ByteArray).toList == (⟨#[99, 97, 108, 108]⟩ : ByteArray).toList) = false := by kernel_rfl
 have b_set : ((⟨#[105, 102]⟩ : ByteArray).toList == (⟨#[115, 101, 116]⟩ : ByteArray).toList) = false := by kernel_rfl
 have b_put : ((⟨#[105, 102]⟩ : ByteArray).toList == (⟨#[112, 117, 116]⟩ : ByteArray).toList) = false := by kernel_rfl
 have c_set : ((⟨#[105, 102]⟩ : ByteArray).toList == (⟨#[115, 101, 116]⟩ : ByteArray).toList) = false := by kernel_rfl
 have c_put : ((⟨#[105, 102]⟩ : ByteArray).toList == (⟨#[112, 117, 116]⟩ : ByteArray).toList) = false := by kernel_rfl
 have c_call : ((⟨#[105, 102]⟩ : ByteArray).toList == (⟨#[99, 97, 108, 108]⟩ : ByteArray).toList) = false := by kernel_rfl
 have c_if : ((⟨#[105, 102]⟩ : ByteArray).toList == (⟨#[105, 102]⟩ : ByteArray).toList) = true := by kernel_rfl
 have c_while : ((⟨#[105, 102]⟩ : ByteArray).toList == (⟨#[119, 104, 105, 108, 101]⟩ : ByteArray).toList) = false := by kernel_rfl
 have c_read : ((⟨#[105, 102]⟩ : ByteArray).toList == (⟨#[114, 101, 97, 100]⟩ : ByteArray).toList) = false := by kernel_rfl
 have c_as : (((⟨#[105, 102]⟩ : ByteArray).toList == (⟨#[97, 115, 115, 101, 114, 116]⟩ : ByteArray).toList) || ((⟨#[105, 102]⟩ : ByteArray).toList == (⟨#[97, 115, 115, 117, 109, 101]⟩ : ByteArray).toList)) = false := by kernel_rfl
 have zl0 : (⟨#[105, 102]⟩ : ByteArray).size = 2 := rfl; have zl1 : (⟨#[119, 104, 105, 108, 101]⟩ : ByteArray).size = 5 := rfl; have zl2 : (⟨#[32]⟩ : ByteArray).size = 1 := rfl; have zl3 : (⟨#[59, 10]⟩ : ByteArray).size = 2 := rfl; have zl4 : (⟨#[32, 123, 10]⟩ : ByteArray).size = 3 := rfl; have zl5 : (⟨#[125, 10]⟩ : ByteArray).size = 2 := rfl; have zl6 : (⟨#[125, 32, 101, 108, 115, 101, 32, 123, 10]⟩ : ByteArray).size = 9 := rfl; have zl7 : (⟨#[114, 101, 97, 100, 32]⟩ : ByteArray).size = 5 := rfl; have zl8 : (⟨#[32, 61, 32, 99, 97, 108, 108, 32]⟩ : ByteArray).size = 8 := rfl; have zl9 : (⟨#[40]⟩ : ByteArray).size = 1 := rfl; have zl10 : (⟨#[41, 59, 10]⟩ : ByteArray).size = 3 := rfl; have zl11 : (⟨#[32, 61, 32]⟩ : ByteArray).size = 3 := rfl; have zl12 : (⟨#[91]⟩ : ByteArray).size = 1 := rfl; have zl13 : (⟨#[93, 32, 61, 32]⟩ : ByteArray).size = 4 := rfl; have zl14 : (⟨#[97, 115, 115, 101, 114, 116]⟩ : ByteArray).size = 6 := rfl; have zl15 : (⟨#[97, 115, 115, 117, 109, 101]⟩ : ByteArray).size = 6 := rfl; have zl16 : (⟨#[115, 101, 116]⟩ : ByteArray).size = 3 := rfl; have zl17 : (⟨#[112, 117, 116]⟩ : ByteArray).size = 3 := rfl; have zl18 : (⟨#[99, 97, 108, 108]⟩ : ByteArray).size = 4 := rfl; have zl19 : (⟨#[114, 101, 97, 100]⟩ : ByteArray).size = 4 := rfl; have hok' := ok_if name proc args cond body els; rw [show ((bad1S (⟨#[105, 102]⟩ : ByteArray) name proc || bad2S (⟨#[105, 102]⟩ : ByteArray) cond body els) || bad3S (⟨#[105, 102]⟩ : ByteArray) args) = badS (⟨#[105, 102]⟩ : ByteArray) name proc args cond body els from rfl] at hok'; have hfb := fuB_ge body; have hfe := fuB_ge els; have hl := wtL_len args; simp only [fuS] at hf; simp only [okS, Bool.and_eq_true, decide_eq_true_eq] at hok; simp only [wtS] at hw ⊢; rw [stmtI.eq_def]
 dsimp only
 cases hb : badS (⟨#[105, 102]⟩ : ByteArray) name proc args cond body els with
 | true =>
  rw [hb] at hok'; simp only [Bool.not_true] at hok'; refine GP.no (fun t ht => ?_); simp only [c_set, c_put, c_call, c_if] at ht
  exfalso
  have g1 := has_grd.1 ht; rw [g1.1] at hok'
  cases hok'
 | false =>
  rw [hb] at hok'; simp only [Bool.not_false] at hok'; simp only [stmtR, a1, a2, b_call, b_set, b_put, c_if]; obtain ⟨c, ok, e, h1, h2, h3⟩ := (condG_gr n cond hok.1.1.2.2 hok.1.1.2.1 (by omega)).ex; simp only [e, chkS_yes (show c.size ≤ 1073741824 by omega)]; rw [hok']; simp only [TM.grd]
  cases ok with
  | false =>
   simp only [Bool.not_false]; refine GP.no (fun t ht => ?_); obtain ⟨a, ha, hb⟩ := has_bd.1 ht
   rcases Nat.lt_or_ge 4000 a.size with w | w
   ·obtain ⟨u, v, hu, _, rfl⟩ := has_sq.1 hb
    have hu := has_ret.1 hu; subst hu; simp only [lnI_size, sz2]; omega
   have := h3 a ha w; cases this
  | true =>
   simp only [Bool.not_true]; have hc := h2 rfl; obtain ⟨bt, ok1, e1, g1, g2, g3⟩ := (hB body (k + 1) (by omega) hok.1.2 (by omega)).ex; obtain ⟨et, ok2, e2, f1, f2, f3⟩ := (hB els (k + 1) (by omega) hok.2 (by omega)).ex; rw [show (((k + 1 : Nat) : Int)) = (k : Int) + 1 by omega] at e1 e2; simp only [e1, e2, chkS_yes (show bt.size ≤ 1073741824 by omega), chkS_yes (show et.size ≤ 1073741824 by omega), Bool.and_self]
   have hes : (elseG els (indent k) et).size ≤ et.size + 2 * k + 9 := by
    unfold elseG
    split
    ·simp only [sz2]; omega
    omega
   have hel : ∀ t, has (match decide (((sms els).length : Int) > 0) with
     | true => sqI (TM.ret (lnI k (⟨#[125, 32, 101, 108, 115, 101, 32, 123]⟩ : ByteArray))) (sqI (blockI els (k + 1)) (TM.ret (lnI k (⟨#[125]⟩ : ByteArray))))
     | false => TM.ret (lnI k (⟨#[125]⟩ : ByteArray))) t ↔ ∃ u, has (blockI els (k + 1)) u ∧ t = elseG els (indent k) u ++ lnI k (⟨#[125]⟩ : ByteArray) := by
    intro t
    unfold elseG
    cases hz : decide (((sms els).length : Int) > 0) with
    | true =>
     simp only; rw [has_sq]
     constructor
     ·rintro ⟨a, b, ha, hb, rfl⟩
      obtain ⟨u, v, hu, hv, rfl⟩ := has_sq.1 hb; have ha := has_ret.1 ha; have hv := has_ret.1 hv; subst ha hv; exact ⟨u, hu, by simp only [lnI, lsp5, ByteArray.append_assoc]⟩
     rintro ⟨u, hu, rfl⟩; exact ⟨_, _, has_ret.2 rfl, has_sq.2 ⟨u, _, hu, has_ret.2 rfl, rfl⟩, by simp only [lnI, lsp5, ByteArray.append_assoc]⟩
    | false =>
     have hn := of_decide_eq_false hz; rw [sms_len2] at hn; obtain rfl : els = [] := List.eq_nil_of_length_eq_zero (by omega); simp only
     have hb0 : ∀ t, has (blockI [] (k + 1)) t ↔ t = ⟨#[]⟩ := fun t => by simp only [blockI]; exact has_ret
     have em : ∀ a : ByteArray, (⟨#[]⟩ : ByteArray) ++ a = a := fun a => by apply ByteArray.ext; simp
     constructor
     ·intro h; exact ⟨⟨#[]⟩, (hb0 _).2 rfl, by rw [em]; exact has_ret.1 h⟩
     rintro ⟨u, hu, rfl⟩; have hu := (hb0 _).1 hu; subst hu; rw [em]; exact has_ret.2 rfl
   refine GP.fit (by simp only [sz2]; omega) (by omega) (fun q => ?_) (fun t ht hs => ?_)
   ·simp only [Bool.and_eq_true] at q
    exact has_bd.2 ⟨c, hc, has_sq.2 ⟨_, _, has_ret.2 rfl, has_sq.2 ⟨bt, _, g2 q.1, (hel _).2 ⟨et, f2 q.2, rfl⟩, rfl⟩, (by simp only [lnI, lsp0, lsp2, lsp4, ByteArray.append_assoc])⟩⟩
   obtain ⟨a, ha, hb⟩ := has_bd.1 ht; obtain ⟨u, v, hu, hv, rfl⟩ := has_sq.1 hb; obtain ⟨w, z, hw', hz, rfl⟩ := has_sq.1 hv; obtain ⟨y, hy, rfl⟩ := (hel _).1 hz
   have hys : y.size ≤ (elseG els (indent k) y).size := by
    unfold elseG
    split
    ·simp only [sz2]; omega
    omega
   simp only [sz2] at hs; rw [g3 w hw' (by omega), f3 y hy (by omega)]
   rfl
theorem gr_while {n F : Nat} {B : List Sm → Int → GT} (hB : BkG n F B) (name proc : ByteArray) (args : List Ex) (cond : List (List Ts)) (body els : List Sm) (k : Nat) (hf : fuS (.mk (⟨#[119, 104, 105, 108, 101]⟩ : ByteArray) name proc args cond body els) ≤ F + 2) (hok : okS n (.mk (⟨#[119, 104, 105, 108, 101]⟩ : ByteArray) name proc args cond body els) = true) (hw : wtS (.mk (⟨#[119, 104, 105, 108, 101]⟩ : ByteArray) name proc args cond body els) ≤ 1000000000) (hk : (k : Int) ≤ 12) :
  GP (has (stmtI (.mk (⟨#[119, 104, 105, 108, 101]⟩ : ByteArray) name proc args cond body els) k)) (wtS (.mk (⟨#[119, 104, 105, 108, 101]⟩ : ByteArray) name proc args cond body els)) (match badS (⟨#[119, 104, 105, 108, 101]⟩ : ByteArray) name proc args cond body els with
   | true => some (⟨#[]⟩, false)
   | false => stmtR n B (.mk (⟨#[119, 104, 105, 108, 101]⟩ : ByteArray) name proc args cond body els) k) := by
 have hi := indent_size k
 have a1 : asksS (⟨#[119, 104, 105, 108, 101]⟩ : ByteArray) = true := by kernel_rfl
 have a2 : blocksS (⟨#[119, 104, 105, 108, 101]⟩ : ByteArray) = true := by kernel_rfl
 have b_read : ((⟨#[119, 104, 105, 108, 101]⟩ : ByteArray).toList == (⟨#[114, 101, 97, 100]⟩ : ByteArray).toList) = false := by kernel_rfl
 have b_call : ((⟨#[119, 104, 105, 108, 101]⟩ : ByteArray).toList == (⟨#[99, 97, 108, 108]⟩ : ByteArray).toList) = false := by kernel_rfl
 have b_set : ((⟨#[119, 104, 105, 108, 101]⟩ : ByteArray).toList == (⟨#[115, 101, 116]⟩ : ByteArray).toList) = false := by kernel_rfl
 have b_put : ((⟨#[119, 104, 105, 108, 101]⟩ : ByteArray).toList == (⟨#[112, 117, 116]⟩ : ByteArray).toList) = false := by kernel_rfl
 have c_set : ((⟨#[119, 104, 105, 108, 101]⟩ : ByteArray).toList == (⟨#[115, 101, 116]⟩ : ByteArray).toList) = false := by kernel_rfl
 have c_put : ((⟨#[119, 104, 105, 108, 101]⟩ : ByteArray).toList == (⟨#[112, 117, 116]⟩ : ByteArray).toList) = false := by kernel_rfl
 have c_call : ((⟨#[119, 104, 105, 108, 101]⟩ : ByteArray).toList == (⟨#[99, 97, 108, 108]⟩ : ByteArray).toList) = false := by kernel_rfl
 have c_if : ((⟨#[119, 104, 105, 108, 101]⟩ : ByteArray).toList == (⟨#[105, 102]⟩ : ByteArray).toList) = false := by kernel_rfl
 have c_while : ((⟨#[119, 104, 105, 108, 101]⟩ : ByteArray).toList == (⟨#[119, 104, 105, 108, 101]⟩ : ByteArray).toList) = true := by kernel_rfl
 have c_read : ((⟨#[119, 104, 105, 108, 101]⟩ : ByteArray).toList == (⟨#[114, 101, 97, 100]⟩ : ByteArray).toList) = false := by kernel_rfl
 have c_as : (((⟨#[119, 104, 105, 108, 101]⟩ : ByteArray).toList == (⟨#[97, 115, 115, 101, 114, 116]⟩ : ByteArray).toList) || ((⟨#[119, 104, 105, 108, 101]⟩ : ByteArray).toList == (⟨#[97, 115, 115, 117, 109, 101]⟩ : ByteArray).toList)) = false := by kernel_rfl
 have zl0 : (⟨#[105, 102]⟩ : ByteArray).size = 2 := rfl; have zl1 : (⟨#[119, 104, 105, 108, 101]⟩ : ByteArray).size = 5 := rfl; have zl2 : (⟨#[32]⟩ : ByteArray).size = 1 := rfl; have zl3 : (⟨#[59, 10]⟩ : ByteArray).size = 2 := rfl; have zl4 : (⟨#[32, 123, 10]⟩ : ByteArray).size = 3 := rfl; have zl5 : (⟨#[125, 10]⟩ : ByteArray).size = 2 := rfl; have zl6 : (⟨#[125, 32, 101, 108, 115, 101, 32, 123, 10]⟩ : ByteArray).size = 9 := rfl; have zl7 : (⟨#[114, 101, 97, 100, 32]⟩ : ByteArray).size = 5 := rfl; have zl8 : (⟨#[32, 61, 32, 99, 97, 108, 108, 32]⟩ : ByteArray).size = 8 := rfl; have zl9 : (⟨#[40]⟩ : ByteArray).size = 1 := rfl; have zl10 : (⟨#[41, 59, 10]⟩ : ByteArray).size = 3 := rfl; have zl11 : (⟨#[32, 61, 32]⟩ : ByteArray).size = 3 := rfl; have zl12 : (⟨#[91]⟩ : ByteArray).size = 1 := rfl; have zl13 : (⟨#[93, 32, 61, 32]⟩ : ByteArray).size = 4 := rfl; have zl14 : (⟨#[97, 115, 115, 101, 114, 116]⟩ : ByteArray).size = 6 := rfl; have zl15 : (⟨#[97, 115, 115, 117, 109, 101]⟩ : ByteArray).size = 6 := rfl; have zl16 : (⟨#[115, 101, 116]⟩ : ByteArray).size = 3 := rfl; have zl17 : (⟨#[112, 117, 116]⟩ : ByteArray).size = 3 := rfl; have zl18 : (⟨#[99, 97, 108, 108]⟩ : ByteArray).size = 4 := rfl; have zl19 : (⟨#[114, 101, 97, 100]⟩ : ByteArray).size = 4 := rfl; have hok' := ok_while name proc args cond body els; rw [show ((bad1S (⟨#[119, 104, 105, 108, 101]⟩ : ByteArray) name proc || bad2S (⟨#[119, 104, 105, 108, 101]⟩ : ByteArray) cond body els) || bad3S (⟨#[119, 104, 105, 108, 101]⟩ : ByteArray) args) = badS (⟨#[119, 104, 105, 108, 101]⟩ : ByteArray) name proc args cond body els from rfl] at hok'; have hfb := fuB_ge body; have hfe := fuB_ge els; have hl := wtL_len args; simp only [fuS] at hf; simp only [okS, Bool.and_eq_true, decide_eq_true_eq] at hok; simp only [wtS] at hw ⊢; rw [stmtI.eq_def]
 dsimp only
 cases hb : badS (⟨#[119, 104, 105, 108, 101]⟩ : ByteArray) name proc args cond body els with
 | true =>
  rw [hb] at hok'; simp only [Bool.not_true] at hok'; refine GP.no (fun t ht => ?_); simp only [c_set, c_put, c_call, c_if, c_while] at ht
  exfalso
  have g1 := has_grd.1 ht; rw [g1.1] at hok'
  cases hok'
 | false =>
  rw [hb] at hok'; simp only [Bool.not_false] at hok'; simp only [stmtR, a1, a2, b_call, b_set, b_put, c_if, c_while]; obtain ⟨c, ok, e, h1, h2, h3⟩ := (condG_gr n cond hok.1.1.2.2 hok.1.1.2.1 (by omega)).ex; simp only [e, chkS_yes (show c.size ≤ 1073741824 by omega)]; rw [hok']; simp only [TM.grd]
  cases ok with
  | false =>
   simp only [Bool.not_false]; refine GP.no (fun t ht => ?_); obtain ⟨a, ha, hb⟩ := has_bd.1 ht
   rcases Nat.lt_or_ge 4000 a.size with w | w
   ·obtain ⟨u, v, hu, _, rfl⟩ := has_sq.1 hb
    have hu := has_ret.1 hu; subst hu; simp only [lnI_size, sz2]; omega
   have := h3 a ha w; cases this
  | true =>
   simp only [Bool.not_true]; have hc := h2 rfl; obtain ⟨bt, ok1, e1, g1, g2, g3⟩ := (hB body (k + 1) (by omega) hok.1.2 (by omega)).ex; obtain ⟨et, ok2, e2, f1, f2, f3⟩ := (hB els (k + 1) (by omega) hok.2 (by omega)).ex; rw [show (((k + 1 : Nat) : Int)) = (k : Int) + 1 by omega] at e1 e2; simp only [e1, e2, chkS_yes (show bt.size ≤ 1073741824 by omega), chkS_yes (show et.size ≤ 1073741824 by omega), Bool.and_self]
   have hes : (elseG els (indent k) et).size ≤ et.size + 2 * k + 9 := by
    unfold elseG
    split
    ·simp only [sz2]; omega
    omega
   have hels : els = [] := by
    have hh := hok'
    unfold bareF at hh
    simp only [Bool.and_eq_true, Bool.or_false, beq_iff_eq] at hh; have := hh.2; rw [sms_len2] at this; exact List.eq_nil_of_length_eq_zero (by omega)
   subst hels
   have hb0 : ∀ t, has (blockI [] (k + 1)) t ↔ t = ⟨#[]⟩ := fun t => by simp only [blockI]; exact has_ret
   have h02 : ok2 = true := f3 ⟨#[]⟩ ((hb0 _).2 rfl) (by decide); have h0e := (hb0 _).1 (f2 h02); subst h02 h0e; have hel : elseG [] (indent k) ⟨#[]⟩ = ⟨#[]⟩ := rfl; rw [hel]; simp only [Bool.and_true]
   have em : ∀ a : ByteArray, a ++ (⟨#[]⟩ : ByteArray) = a := fun a => by apply ByteArray.ext; simp
   refine GP.fit (by simp only [sz2]; have : (⟨#[]⟩ : ByteArray).size = 0 := rfl; omega) (by omega) (fun q => ?_) (fun t ht hs => ?_)
   ·rw [em]
    exact has_bd.2 ⟨c, hc, has_sq.2 ⟨_, _, has_ret.2 rfl, has_sq.2 ⟨bt, _, g2 q, has_ret.2 rfl, rfl⟩, (by simp only [lnI, lsp1, lsp2, lsp4, ByteArray.append_assoc])⟩⟩
   obtain ⟨a, ha, hb⟩ := has_bd.1 ht; obtain ⟨u, v, hu, hv, rfl⟩ := has_sq.1 hb; obtain ⟨w, z, hw', hz, rfl⟩ := has_sq.1 hv; simp only [sz2] at hs; exact g3 w hw' (by omega)
theorem gr_assert {n F : Nat} {B : List Sm → Int → GT} (_hB : BkG n F B) (name proc : ByteArray) (args : List Ex) (cond : List (List Ts)) (body els : List Sm) (k : Nat) (hf : fuS (.mk (⟨#[97, 115, 115, 101, 114, 116]⟩ : ByteArray) name proc args cond body els) ≤ F + 2) (hok : okS n (.mk (⟨#[97, 115, 115, 101, 114, 116]⟩ : ByteArray) name proc args cond body els) = true) (hw : wtS (.mk (⟨#[97, 115, 115, 101, 114, 116]⟩ : ByteArray) name proc args cond body els) ≤ 1000000000) (hk : (k : Int) ≤ 12) :
  GP (has (stmtI (.mk (⟨#[97, 115, 115, 101, 114, 116]⟩ : ByteArray) name proc args cond body els) k)) (wtS (.mk (⟨#[97, 115, 115, 101, 114, 116]⟩ : ByteArray) name proc args cond body els)) (match badS (⟨#[97, 115, 115, 101, 114, 116]⟩ : ByteArray) name proc args cond body els with
   | true => some (⟨#[]⟩, false)
   | false => stmtR n B (.mk (⟨#[97, 115, 115, 101, 114, 116]⟩ : ByteArray) name proc args cond body els) k) := by
 have hi := indent_size k
 have a1 : asksS (⟨#[97, 115, 115, 101, 114, 116]⟩ : ByteArray) = true := by kernel_rfl
 have a2 : blocksS (⟨#[97, 115, 115, 101, 114, 116]⟩ : ByteArray) = false := by kernel_rfl
 have b_read : ((⟨#[97, 115, 115, 101, 114, 116]⟩ : ByteArray).toList == (⟨#[114, 101, 97, 100]⟩ : ByteArray).toList) = false := by kernel_rfl
 have b_call : ((⟨#[97, 115, 115, 101, 114, 116]⟩ : ByteArray).toList == (⟨#[99, 97, 108, 108]⟩ : ByteArray).toList) = false := by kernel_rfl
 have b_set : ((⟨#[97, 115, 115, 101, 114, 116]⟩ : ByteArray).toList == (⟨#[115, 101, 116]⟩ : ByteArray).toList) = false := by kernel_rfl
 have b_put : ((⟨#[97, 115, 115, 101, 114, 116]⟩ : ByteArray).toList == (⟨#[112, 117, 116]⟩ : ByteArray).toList) = false := by kernel_rfl
 have c_set : ((⟨#[97, 115, 115, 101, 114, 116]⟩ : ByteArray).toList == (⟨#[115, 101, 116]⟩ : ByteArray).toList) = false := by kernel_rfl
 have c_put : ((⟨#[97, 115, 115, 101, 114, 116]⟩ : ByteArray).toList == (⟨#[112, 117, 116]⟩ : ByteArray).toList) = false := by kernel_rfl
 have c_call : ((⟨#[97, 115, 115, 101, 114, 116]⟩ : ByteArray).toList == (⟨#[99, 97, 108, 108]⟩ : ByteArray).toList) = false := by kernel_rfl
 have c_if : ((⟨#[97, 115, 115, 101, 114, 116]⟩ : ByteArray).toList == (⟨#[105, 102]⟩ : ByteArray).toList) = false := by kernel_rfl
 have c_while : ((⟨#[97, 115, 115, 101, 114, 116]⟩ : ByteArray).toList == (⟨#[119, 104, 105, 108, 101]⟩ : ByteArray).toList) = false := by kernel_rfl
 have c_read : ((⟨#[97, 115, 115, 101, 114, 116]⟩ : ByteArray).toList == (⟨#[114, 101, 97, 100]⟩ : ByteArray).toList) = false := by kernel_rfl
 have c_as : (((⟨#[97, 115, 115, 101, 114, 116]⟩ : ByteArray).toList == (⟨#[97, 115, 115, 101, 114, 116]⟩ : ByteArray).toList) || ((⟨#[97, 115, 115, 101, 114, 116]⟩ : ByteArray).toList == (⟨#[97, 115, 115, 117, 109, 101]⟩ : ByteArray).toList)) = true := by kernel_rfl
 have zl0 : (⟨#[105, 102]⟩ : ByteArray).size = 2 := rfl; have zl1 : (⟨#[119, 104, 105, 108, 101]⟩ : ByteArray).size = 5 := rfl; have zl2 : (⟨#[32]⟩ : ByteArray).size = 1 := rfl; have zl3 : (⟨#[59, 10]⟩ : ByteArray).size = 2 := rfl; have zl4 : (⟨#[32, 123, 10]⟩ : ByteArray).size = 3 := rfl; have zl5 : (⟨#[125, 10]⟩ : ByteArray).size = 2 := rfl; have zl6 : (⟨#[125, 32, 101, 108, 115, 101, 32, 123, 10]⟩ : ByteArray).size = 9 := rfl; have zl7 : (⟨#[114, 101, 97, 100, 32]⟩ : ByteArray).size = 5 := rfl; have zl8 : (⟨#[32, 61, 32, 99, 97, 108, 108, 32]⟩ : ByteArray).size = 8 := rfl; have zl9 : (⟨#[40]⟩ : ByteArray).size = 1 := rfl; have zl10 : (⟨#[41, 59, 10]⟩ : ByteArray).size = 3 := rfl; have zl11 : (⟨#[32, 61, 32]⟩ : ByteArray).size = 3 := rfl; have zl12 : (⟨#[91]⟩ : ByteArray).size = 1 := rfl; have zl13 : (⟨#[93, 32, 61, 32]⟩ : ByteArray).size = 4 := rfl; have zl14 : (⟨#[97, 115, 115, 101, 114, 116]⟩ : ByteArray).size = 6 := rfl; have zl15 : (⟨#[97, 115, 115, 117, 109, 101]⟩ : ByteArray).size = 6 := rfl; have zl16 : (⟨#[115, 101, 116]⟩ : ByteArray).size = 3 := rfl; have zl17 : (⟨#[112, 117, 116]⟩ : ByteArray).size = 3 := rfl; have zl18 : (⟨#[99, 97, 108, 108]⟩ : ByteArray).size = 4 := rfl; have zl19 : (⟨#[114, 101, 97, 100]⟩ : ByteArray).size = 4 := rfl; have hok' := ok_assert name proc args cond body els; rw [show ((bad1S (⟨#[97, 115, 115, 101, 114, 116]⟩ : ByteArray) name proc || bad2S (⟨#[97, 115, 115, 101, 114, 116]⟩ : ByteArray) cond body els) || bad3S (⟨#[97, 115, 115, 101, 114, 116]⟩ : ByteArray) args) = badS (⟨#[97, 115, 115, 101, 114, 116]⟩ : ByteArray) name proc args cond body els from rfl] at hok'; have hfb := fuB_ge body; have hfe := fuB_ge els; have hl := wtL_len args; simp only [fuS] at hf; simp only [okS, Bool.and_eq_true, decide_eq_true_eq] at hok; simp only [wtS] at hw ⊢; rw [stmtI.eq_def]
 dsimp only
 cases hb : badS (⟨#[97, 115, 115, 101, 114, 116]⟩ : ByteArray) name proc args cond body els with
 | true =>
  rw [hb] at hok'; simp only [Bool.not_true] at hok'; refine GP.no (fun t ht => ?_); simp only [c_set, c_put, c_call, c_if, c_while, c_as] at ht
  exfalso
  have g1 := has_grd.1 ht; rw [g1.1] at hok'
  cases hok'
 | false =>
  rw [hb] at hok'; simp only [Bool.not_false] at hok'; simp only [stmtR, a1, a2, b_call, b_set, b_put, c_if, c_while, c_as]; obtain ⟨c, ok, e, h1, h2, h3⟩ := (condG_gr n cond hok.1.1.2.2 hok.1.1.2.1 (by omega)).ex; simp only [e, chkS_yes (show c.size ≤ 1073741824 by omega)]; rw [hok']; simp only [TM.grd]
  cases ok with
  | false =>
   simp only [Bool.not_false]; refine GP.no (fun t ht => ?_); obtain ⟨a, ha, hb⟩ := has_bd.1 ht
   rcases Nat.lt_or_ge 4000 a.size with w | w
   ·have hb := has_ret.1 hb
    subst hb; simp only [lnI_size, sz2]; omega
   have := h3 a ha w; cases this
  | true =>
   simp only [Bool.not_true, Bool.not_false]; have hc := h2 rfl; refine GP.fit (by simp only [sz2]; omega) (by omega) (fun q => ?_) (fun t ht hs => rfl); exact has_bd.2 ⟨c, hc, has_ret.2 (by simp only [lnI, lsp3, ByteArray.append_assoc])⟩
theorem gr_assume {n F : Nat} {B : List Sm → Int → GT} (_hB : BkG n F B) (name proc : ByteArray) (args : List Ex) (cond : List (List Ts)) (body els : List Sm) (k : Nat) (hf : fuS (.mk (⟨#[97, 115, 115, 117, 109, 101]⟩ : ByteArray) name proc args cond body els) ≤ F + 2) (hok : okS n (.mk (⟨#[97, 115, 115, 117, 109, 101]⟩ : ByteArray) name proc args cond body els) = true) (hw : wtS (.mk (⟨#[97, 115, 115, 117, 109, 101]⟩ : ByteArray) name proc args cond body els) ≤ 1000000000) (hk : (k : Int) ≤ 12) :
  GP (has (stmtI (.mk (⟨#[97, 115, 115, 117, 109, 101]⟩ : ByteArray) name proc args cond body els) k)) (wtS (.mk (⟨#[97, 115, 115, 117, 109, 101]⟩ : ByteArray) name proc args cond body els)) (match badS (⟨#[97, 115, 115, 117, 109, 101]⟩ : ByteArray) name proc args cond body els with
   | true => some (⟨#[]⟩, false)
   | false => stmtR n B (.mk (⟨#[97, 115, 115, 117, 109, 101]⟩ : ByteArray) name proc args cond body els) k) := by
 have hi := indent_size k
 have a1 : asksS (⟨#[97, 115, 115, 117, 109, 101]⟩ : ByteArray) = true := by kernel_rfl
 have a2 : blocksS (⟨#[97, 115, 115, 117, 109, 101]⟩ : ByteArray) = false := by kernel_rfl
 have b_read : ((⟨#[97, 115, 115, 117, 109, 101]⟩ : ByteArray).toList == (⟨#[114, 101, 97, 100]⟩ : ByteArray).toList) = false := by kernel_rfl
 have b_call : ((⟨#[97, 115, 115, 117, 109, 101]⟩ : ByteArray).toList == (⟨#[99, 97, 108, 108]⟩ : ByteArray).toList) = false := by kernel_rfl
 have b_set : ((⟨#[97, 115, 115, 117, 109, 101]⟩ : ByteArray).toList == (⟨#[115, 101, 116]⟩ : ByteArray).toList) = false := by kernel_rfl
 have b_put : ((⟨#[97, 115, 115, 117, 109, 101]⟩ : ByteArray).toList == (⟨#[112, 117, 116]⟩ : ByteArray).toList) = false := by kernel_rfl
 have c_set : ((⟨#[97, 115, 115, 117, 109, 101]⟩ : ByteArray).toList == (⟨#[115, 101, 116]⟩ : ByteArray).toList) = false := by kernel_rfl
 have c_put : ((⟨#[97, 115, 115, 117, 109, 101]⟩ : ByteArray).toList == (⟨#[112, 117, 116]⟩ : ByteArray).toList) = false := by kernel_rfl
 have c_call : ((⟨#[97, 115, 115, 117, 109, 101]⟩ : ByteArray).toList == (⟨#[99, 97, 108, 108]⟩ : ByteArray).toList) = false := by kernel_rfl
 have c_if : ((⟨#[97, 115, 115, 117, 109, 101]⟩ : ByteArray).toList == (⟨#[105, 102]⟩ : ByteArray).toList) = false := by kernel_rfl
 have c_while : ((⟨#[97, 115, 115, 117, 109, 101]⟩ : ByteArray).toList == (⟨#[119, 104, 105, 108, 101]⟩ : ByteArray).toList) = false := by kernel_rfl
 have c_read : ((⟨#[97, 115, 115, 117, 109, 101]⟩ : ByteArray).toList == (⟨#[114, 101, 97, 100]⟩ : ByteArray).toList) = false := by kernel_rfl
 have c_as : (((⟨#[97, 115, 115, 117, 109, 101]⟩ : ByteArray).toList == (⟨#[97, 115, 115, 101, 114, 116]⟩ : ByteArray).toList) || ((⟨#[97, 115, 115, 117, 109, 101]⟩ : ByteArray).toList == (⟨#[97, 115, 115, 117, 109, 101]⟩ : ByteArray).toList)) = true := by kernel_rfl
 have zl0 : (⟨#[105, 102]⟩ : ByteArray).size = 2 := rfl; have zl1 : (⟨#[119, 104, 105, 108, 101]⟩ : ByteArray).size = 5 := rfl; have zl2 : (⟨#[32]⟩ : ByteArray).size = 1 := rfl; have zl3 : (⟨#[59, 10]⟩ : ByteArray).size = 2 := rfl; have zl4 : (⟨#[32, 123, 10]⟩ : ByteArray).size = 3 := rfl; have zl5 : (⟨#[125, 10]⟩ : ByteArray).size = 2 := rfl; have zl6 : (⟨#[125, 32, 101, 108, 115, 101, 32, 123, 10]⟩ : ByteArray).size = 9 := rfl; have zl7 : (⟨#[114, 101, 97, 100, 32]⟩ : ByteArray).size = 5 := rfl; have zl8 : (⟨#[32, 61, 32, 99, 97, 108, 108, 32]⟩ : ByteArray).size = 8 := rfl; have zl9 : (⟨#[40]⟩ : ByteArray).size = 1 := rfl; have zl10 : (⟨#[41, 59, 10]⟩ : ByteArray).size = 3 := rfl; have zl11 : (⟨#[32, 61, 32]⟩ : ByteArray).size = 3 := rfl; have zl12 : (⟨#[91]⟩ : ByteArray).size = 1 := rfl; have zl13 : (⟨#[93, 32, 61, 32]⟩ : ByteArray).size = 4 := rfl; have zl14 : (⟨#[97, 115, 115, 101, 114, 116]⟩ : ByteArray).size = 6 := rfl; have zl15 : (⟨#[97, 115, 115, 117, 109, 101]⟩ : ByteArray).size = 6 := rfl; have zl16 : (⟨#[115, 101, 116]⟩ : ByteArray).size = 3 := rfl; have zl17 : (⟨#[112, 117, 116]⟩ : ByteArray).size = 3 := rfl; have zl18 : (⟨#[99, 97, 108, 108]⟩ : ByteArray).size = 4 := rfl; have zl19 : (⟨#[114, 101, 97, 100]⟩ : ByteArray).size = 4 := rfl; have hok' := ok_assume name proc args cond body els; rw [show ((bad1S (⟨#[97, 115, 115, 117, 109, 101]⟩ : ByteArray) name proc || bad2S (⟨#[97, 115, 115, 117, 109, 101]⟩ : ByteArray) cond body els) || bad3S (⟨#[97, 115, 115, 117, 109, 101]⟩ : ByteArray) args) = badS (⟨#[97, 115, 115, 117, 109, 101]⟩ : ByteArray) name proc args cond body els from rfl] at hok'; have hfb := fuB_ge body; have hfe := fuB_ge els; have hl := wtL_len args; simp only [fuS] at hf; simp only [okS, Bool.and_eq_true, decide_eq_true_eq] at hok; simp only [wtS] at hw ⊢; rw [stmtI.eq_def]
 dsimp only
 cases hb : badS (⟨#[97, 115, 115, 117, 109, 101]⟩ : ByteArray) name proc args cond body els with
 | true =>
  rw [hb] at hok'; simp only [Bool.not_true] at hok'; refine GP.no (fun t ht => ?_); simp only [c_set, c_put, c_call, c_if, c_while, c_as] at ht
  exfalso
  have g1 := has_grd.1 ht; rw [g1.1] at hok'
  cases hok'
 | false =>
  rw [hb] at hok'; simp only [Bool.not_false] at hok'; simp only [stmtR, a1, a2, b_call, b_set, b_put, c_if, c_while, c_as]; obtain ⟨c, ok, e, h1, h2, h3⟩ := (condG_gr n cond hok.1.1.2.2 hok.1.1.2.1 (by omega)).ex; simp only [e, chkS_yes (show c.size ≤ 1073741824 by omega)]; rw [hok']; simp only [TM.grd]
  cases ok with
  | false =>
   simp only [Bool.not_false]; refine GP.no (fun t ht => ?_); obtain ⟨a, ha, hb⟩ := has_bd.1 ht
   rcases Nat.lt_or_ge 4000 a.size with w | w
   ·have hb := has_ret.1 hb
    subst hb; simp only [lnI_size, sz2]; omega
   have := h3 a ha w; cases this
  | true =>
   simp only [Bool.not_true, Bool.not_false]; have hc := h2 rfl; refine GP.fit (by simp only [sz2]; omega) (by omega) (fun q => ?_) (fun t ht hs => rfl); exact has_bd.2 ⟨c, hc, has_ret.2 (by simp only [lnI, lsp3, ByteArray.append_assoc])⟩
theorem gr_read {n F : Nat} {B : List Sm → Int → GT} (_hB : BkG n F B) (name proc : ByteArray) (args : List Ex) (cond : List (List Ts)) (body els : List Sm) (k : Nat) (hf : fuS (.mk (⟨#[114, 101, 97, 100]⟩ : ByteArray) name proc args cond body els) ≤ F + 2) (hok : okS n (.mk (⟨#[114, 101, 97, 100]⟩ : ByteArray) name proc args cond body els) = true) (hw : wtS (.mk (⟨#[114, 101, 97, 100]⟩ : ByteArray) name proc args cond body els) ≤ 1000000000) (hk : (k : Int) ≤ 12) :
  GP (has (stmtI (.mk (⟨#[114, 101, 97, 100]⟩ : ByteArray) name proc args cond body els) k)) (wtS (.mk (⟨#[114, 101, 97, 100]⟩ : ByteArray) name proc args cond body els)) (match badS (⟨#[114, 101, 97, 100]⟩ : ByteArray) name proc args cond body els with
   | true => some (⟨#[]⟩, false)
   | false => stmtR n B (.mk (⟨#[114, 101, 97, 100]⟩ : ByteArray) name proc args cond body els) k) := by
 have hi := indent_size k
 have a1 : asksS (⟨#[114, 101, 97, 100]⟩ : ByteArray) = false := by kernel_rfl
 have a2 : blocksS (⟨#[114, 101, 97, 100]⟩ : ByteArray) = false := by kernel_rfl
 have b_read : ((⟨#[114, 101, 97, 100]⟩ : ByteArray).toList == (⟨#[114, 101, 97, 100]⟩ : ByteArray).toList) = true := by kernel_rfl
 have b_call : ((⟨#[114, 101, 97, 100]⟩ : ByteArray).toList == (⟨#[99, 97, 108, 108]⟩ : ByteArray).toList) = false := by kernel_rfl
 have b_set : ((⟨#[114, 101, 97, 100]⟩ : ByteArray).toList == (⟨#[115, 101, 116]⟩ : ByteArray).toList) = false := by kernel_rfl
 have b_put : ((⟨#[114, 101, 97, 100]⟩ : ByteArray).toList == (⟨#[112, 117, 116]⟩ : ByteArray).toList) = false := by kernel_rfl
 have c_set : ((⟨#[114, 101, 97, 100]⟩ : ByteArray).toList == (⟨#[115, 101, 116]⟩ : ByteArray).toList) = false := by kernel_rfl
 have c_put : ((⟨#[114, 101, 97, 100]⟩ : ByteArray).toList == (⟨#[112, 117, 116]⟩ : ByteArray).toList) = false := by kernel_rfl
 have c_call : ((⟨#[114, 101, 97, 100]⟩ : ByteArray).toList == (⟨#[99, 97, 108, 108]⟩ : ByteArray).toList) = false := by kernel_rfl
 have c_if : ((⟨#[114, 101, 97, 100]⟩ : ByteArray).toList == (⟨#[105, 102]⟩ : ByteArray).toList) = false := by kernel_rfl
 have c_while : ((⟨#[114, 101, 97, 100]⟩ : ByteArray).toList == (⟨#[119, 104, 105, 108, 101]⟩ : ByteArray).toList) = false := by kernel_rfl
 have c_read : ((⟨#[114, 101, 97, 100]⟩ : ByteArray).toList == (⟨#[114, 101, 97, 100]⟩ : ByteArray).toList) = true := by kernel_rfl
 have c_as : (((⟨#[114, 101, 97, 100]⟩ : ByteArray).toList == (⟨#[97, 115, 115, 101, 114, 116]⟩ : ByteArray).toList) || ((⟨#[114, 101, 97, 100]⟩ : ByteArray).toList == (⟨#[97, 115, 115, 117, 109, 101]⟩ : ByteArray).toList)) = false := by kernel_rfl
 have zl0 : (⟨#[105, 102]⟩ : ByteArray).size = 2 := rfl; have zl1 : (⟨#[119, 104, 105, 108, 101]⟩ : ByteArray).size = 5 := rfl; have zl2 : (⟨#[32]⟩ : ByteArray).size = 1 := rfl; have zl3 : (⟨#[59, 10]⟩ : ByteArray).size = 2 := rfl; have zl4 : (⟨#[32, 123, 10]⟩ : ByteArray).size = 3 := rfl; have zl5 : (⟨#[125, 10]⟩ : ByteArray).size = 2 := rfl; have zl6 : (⟨#[125, 32, 101, 108, 115, 101, 32, 123, 10]⟩ : ByteArray).size = 9 := rfl; have zl7 : (⟨#[114, 101, 97, 100, 32]⟩ : ByteArray).size = 5 := rfl; have zl8 : (⟨#[32, 61, 32, 99, 97, 108, 108, 32]⟩ : ByteArray).size = 8 := rfl; have zl9 : (⟨#[40]⟩ : ByteArray).size = 1 := rfl; have zl10 : (⟨#[41, 59, 10]⟩ : ByteArray).size = 3 := rfl; have zl11 : (⟨#[32, 61, 32]⟩ : ByteArray).size = 3 := rfl; have zl12 : (⟨#[91]⟩ : ByteArray).size = 1 := rfl; have zl13 : (⟨#[93, 32, 61, 32]⟩ : ByteArray).size = 4 := rfl; have zl14 : (⟨#[97, 115, 115, 101, 114, 116]⟩ : ByteArray).size = 6 := rfl; have zl15 : (⟨#[97, 115, 115, 117, 109, 101]⟩ : ByteArray).size = 6 := rfl; have zl16 : (⟨#[115, 101, 116]⟩ : ByteArray).size = 3 := rfl; have zl17 : (⟨#[112, 117, 116]⟩ : ByteArray).size = 3 := rfl; have zl18 : (⟨#[99, 97, 108, 108]⟩ : ByteArray).size = 4 := rfl; have zl19 : (⟨#[114, 101, 97, 100]⟩ : ByteArray).size = 4 := rfl; have hok' := ok_read name proc args cond body els; rw [show ((bad1S (⟨#[114, 101, 97, 100]⟩ : ByteArray) name proc || bad2S (⟨#[114, 101, 97, 100]⟩ : ByteArray) cond body els) || bad3S (⟨#[114, 101, 97, 100]⟩ : ByteArray) args) = badS (⟨#[114, 101, 97, 100]⟩ : ByteArray) name proc args cond body els from rfl] at hok'; have hfb := fuB_ge body; have hfe := fuB_ge els; have hl := wtL_len args; simp only [fuS] at hf; simp only [okS, Bool.and_eq_true, decide_eq_true_eq] at hok; simp only [wtS] at hw ⊢; rw [stmtI.eq_def]
 dsimp only
 cases hb : badS (⟨#[114, 101, 97, 100]⟩ : ByteArray) name proc args cond body els with
 | true =>
  rw [hb] at hok'; simp only [Bool.not_true] at hok'; refine GP.no (fun t ht => ?_); simp only [c_set, c_put, c_call, c_if, c_while, c_as, c_read] at ht
  exfalso
  have g1 := has_grd.1 ht; have g2 := has_grd.1 g1.2; rw [g1.1, g2.1] at hok'
  cases hok'
 | false =>
  rw [hb] at hok'; simp only [Bool.not_false] at hok'; simp only [stmtR, a1, b_read, b_call, b_set, b_put, c_if, c_while, c_as]; have hcl : chkL args.length = true := decide_eq_true (by omega); obtain ⟨l, ok, e, h1, h2, h3⟩ := (listJ_gr n args hok.1.1.1.2 hok.1.1.1.1 (by omega)).ex; simp only [hcl, e, chkS_yes (show l.size ≤ 1073741824 by omega)]; simp only [Bool.and_eq_true] at hok'; rw [hok'.1, hok'.2]; simp only [TM.grd]; refine GP.fit (by simp only [sz2]; omega) (by omega) (fun q => ?_) (fun t ht hs => rfl); exact has_ret.2 (by simp only [lnI, lsp3, ByteArray.append_assoc])
end Go.Abs
end
section
namespace Go.Abs
open Go Go.Proofs
theorem stB_gr {n F : Nat} {B : List Sm → Int → GT} (hB : BkG n F B) : StG n (F + 2) (stmtB n B) := by
 intro s k hf hok hw; obtain ⟨kind, name, proc, args, cond, body, els⟩ := s; have hw' := hw; simp only [wtS] at hw'
 by_cases hk : (k : Int) ≤ 12
 ·rw [stmtB_rest n B kind name proc args cond body els k (by omega) (by omega) (by omega) hk]
  suffices h : GP (has (stmtI (.mk kind name proc args cond body els) k)) (wtS (.mk kind name proc args cond body els)) (match badS kind name proc args cond body els with
    | true => some (⟨#[]⟩, false)
    | false => stmtR n B (.mk kind name proc args cond body els) k) from h.congr (Nat.le_refl _) (fun t => ⟨fun q => ⟨hk, q⟩, fun q => q.2⟩)
  cases k_set : (kind.toList == (⟨#[115, 101, 116]⟩ : ByteArray).toList) with
  | true =>
   rw [beq_toList] at k_set; have k_set := of_decide_eq_true k_set; subst k_set; exact gr_set hB name proc args cond body els k hf hok hw hk
  | false =>
  cases k_put : (kind.toList == (⟨#[112, 117, 116]⟩ : ByteArray).toList) with
  | true =>
   rw [beq_toList] at k_put; have k_put := of_decide_eq_true k_put; subst k_put; exact gr_put hB name proc args cond body els k hf hok hw hk
  | false =>
  cases k_call : (kind.toList == (⟨#[99, 97, 108, 108]⟩ : ByteArray).toList) with
  | true =>
   rw [beq_toList] at k_call; have k_call := of_decide_eq_true k_call; subst k_call; exact gr_call hB name proc args cond body els k hf hok hw hk
  | false =>
  cases k_if : (kind.toList == (⟨#[105, 102]⟩ : ByteArray).toList) with
  | true =>
   rw [beq_toList] at k_if; have k_if := of_decide_eq_true k_if; subst k_if; exact gr_if hB name proc args cond body els k hf hok hw hk
  | false =>
  cases k_while : (kind.toList == (⟨#[119, 104, 105, 108, 101]⟩ : ByteArray).toList) with
  | true =>
   rw [beq_toList] at k_while; have k_while := of_decide_eq_true k_while; subst k_while; exact gr_while hB name proc args cond body els k hf hok hw hk
  | false =>
  cases k_assert : (kind.toList == (⟨#[97, 115, 115, 101, 114, 116]⟩ : ByteArray).toList) with
  | true =>
   rw [beq_toList] at k_assert; have k_assert := of_decide_eq_true k_assert; subst k_assert; exact gr_assert hB name proc args cond body els k hf hok hw hk
  | false =>
  cases k_assume : (kind.toList == (⟨#[97, 115, 115, 117, 109, 101]⟩ : ByteArray).toList) with
  | true =>
   rw [beq_toList] at k_assume; have k_assume := of_decide_eq_true k_assume; subst k_assume; exact gr_assume hB name proc args cond body els k hf hok hw hk
  | false =>
  cases k_read : (kind.toList == (⟨#[114, 101, 97, 100]⟩ : ByteArray).toList) with
  | true =>
   rw [beq_toList] at k_read; have k_read := of_decide_eq_true k_read; subst k_read; exact gr_read hB name proc args cond body els k hf hok hw hk
  | false =>
  simp only [okS, Bool.and_eq_true, decide_eq_true_eq] at hok; have hl := wtL_len args; have hcl : chkL args.length = true := decide_eq_true (by omega); obtain ⟨l, ok, e, h1, _, _⟩ := (listJ_gr n args hok.1.1.1.2 hok.1.1.1.1 (by omega)).ex
  have ha : asksS kind = false := by unfold asksS; rw [k_if, k_while, k_assert, k_assume]; rfl
  rw [stmtI.eq_def]; simp only [k_set, k_put, k_call, k_if, k_while, k_assert, k_assume, k_read, Bool.or_self]
  cases badS kind name proc args cond body els with
  | true => exact GP.no (fun t ht => absurd ht has_none)
  | false =>
   simp only [stmtR, ha, hcl, e, chkS_yes (show l.size ≤ 1073741824 by omega), k_read, k_call, k_set, k_put]; exact GP.no (fun t ht => absurd ht has_none)
 have hc : ((chkS name && chkS proc) && (chkS kind && decide (0 ≤ (k : Int)))) = true := by
  rw [chkS_yes (show name.size ≤ 1073741824 by omega), chkS_yes (show proc.size ≤ 1073741824 by omega), chkS_yes (show kind.size ≤ 1073741824 by omega), decide_eq_true (by omega)]
  rfl
 simp only [stmtB, hc, decide_eq_true (show (k : Int) > 12 by omega)]; exact GP.no (fun t ht => absurd ht.1 hk)
theorem blockN_gr (n : Nat) : ∀ f, BkG n f (blockN n f)
 | 0 => fun l k h => by have := fuB_ge l; omega
 | f + 1 => fun l k hf hok hw => by
  have hlen := wtB_len l; have hc : chkL l.length = true := decide_eq_true (by omega); simp only [blockN, hc]; have e0 : (⟨#[]⟩ : ByteArray).size = 0 := rfl; have h := blk_gr (stB_gr (blockN_gr n f)) l k ⟨#[]⟩ (by omega) hok (by omega); refine h.congr (by omega) (fun t => ?_)
  have em : ∀ a : ByteArray, (⟨#[]⟩ : ByteArray) ++ a = a := fun a => by apply ByteArray.ext; simp
  constructor
  ·rintro ⟨u, hu, rfl⟩; rw [em]; exact hu
  intro h; exact ⟨t, h, (em t).symm⟩
structure GQ (p : ByteArray → Prop) (r : GT) : Prop where
 ex : ∃ s b, r = some (s, b) ∧ (b = true → p s ∧ s.size ≤ 4000) ∧ (∀ t, p t → t.size ≤ 4000 → b = true)
theorem GQ.no {p : ByteArray → Prop} (h : ∀ t, p t → 4000 < t.size) : GQ p (some (⟨#[]⟩, false)) :=
 ⟨⟨_, _, rfl, fun q => Bool.noConfusion q, fun t e q => by have := h t e; omega⟩⟩
theorem GQ.congr {p q : ByteArray → Prop} {r : GT} (h : GQ p r) (hp : ∀ t, p t ↔ q t) : GQ q r := by
 obtain ⟨s, b, h1, h3, h4⟩ := h.ex; exact ⟨⟨s, b, h1, fun z => ⟨(hp s).1 (h3 z).1, (h3 z).2⟩, fun t z => h4 t ((hp t).2 z)⟩⟩
def bhd (x : TIs) (P : ByteArray → Prop) (acc : ByteArray) : ByteArray → Prop := fun t => ∃ v u, has x v ∧ P u ∧ t = acc ++ (v ++ u)
theorem bhd_emp (P : ByteArray → Prop) (acc t : ByteArray) : bhd (TM.ret ⟨#[]⟩) P acc t ↔ ∃ u, P u ∧ t = acc ++ u := by
 have em : ∀ a : ByteArray, (⟨#[]⟩ : ByteArray) ++ a = a := fun a => by apply ByteArray.ext; simp
 constructor
 ·rintro ⟨v, u, hv, hu, rfl⟩
  have hv := has_ret.1 hv; subst hv; exact ⟨u, hu, by rw [em]⟩
 rintro ⟨u, hu, rfl⟩; exact ⟨_, u, has_ret.2 rfl, hu, by rw [em]⟩
theorem bhd_sq (x : ByteArray) (y : TIs) (P : ByteArray → Prop) (acc t : ByteArray) : bhd (sqI (TM.ret x) y) P acc t ↔ bhd y P (acc ++ x) t := by
 constructor
 ·rintro ⟨v, u, hv, hu, rfl⟩
  obtain ⟨a, b, ha, hb, rfl⟩ := has_sq.1 hv; have ha := has_ret.1 ha; subst ha; exact ⟨b, u, hb, hu, by simp only [ByteArray.append_assoc]⟩
 rintro ⟨v, u, hv, hu, rfl⟩; exact ⟨_, u, has_sq.2 ⟨_, _, has_ret.2 rfl, hv, rfl⟩, hu, by simp only [ByteArray.append_assoc]⟩
theorem ln0 (s : ByteArray) : lnI 0 s = s ++ ⟨#[10]⟩ := by
 have em : ∀ a : ByteArray, (⟨#[]⟩ : ByteArray) ++ a = a := fun a => by apply ByteArray.ext; simp
 have e : indent 0 = ⟨#[]⟩ := rfl
 unfold lnI
 rw [e, em]
theorem varsG_gr {K : ByteArray → GT} {P : ByteArray → Prop} {A : Nat} (hA : A ≤ 1000000000) (hK : ∀ acc : ByteArray, acc.size ≤ A → GQ (fun t => ∃ u, P u ∧ t = acc ++ u) (K acc)) : ∀ (l : List ByteArray) (acc : ByteArray), acc.size + wtV l ≤ A → GQ (bhd (varsI l) P acc) (varsG K l acc)
 | [], acc, h => (hK acc (by omega)).congr (fun t => (bhd_emp P acc t).symm)
 | v :: r, acc, h => by
  simp only [wtV] at h; have zl0 : (⟨#[118, 97, 114, 32]⟩ : ByteArray).size = 4 := rfl; have zl1 : (⟨#[59, 10]⟩ : ByteArray).size = 2 := rfl
  have hs : (((acc ++ (⟨#[118, 97, 114, 32]⟩ : ByteArray)) ++ v) ++ (⟨#[59, 10]⟩ : ByteArray)).size ≤ acc.size + v.size + 6 := by simp only [sz2]; omega
  simp only [varsG, chkS_yes (show v.size ≤ 1073741824 by omega), chkS_yes (show (((acc ++ (⟨#[118, 97, 114, 32]⟩ : ByteArray)) ++ v) ++ (⟨#[59, 10]⟩ : ByteArray)).size ≤ 1073741824 by omega), Bool.and_self, nameG_eq, varsI]
  cases hq : isNameF v with
  | false =>
   refine GQ.no (fun t ht => ?_); obtain ⟨_, _, hv, _⟩ := ht; exact absurd (has_grd.1 hv).1 (by decide)
  | true =>
   simp only [Bool.not_true, TM.grd]; refine (varsG_gr hA hK r _ (by omega)).congr (fun t => ?_); rw [bhd_sq, ln0]; simp only [lsp3, ByteArray.append_assoc]
theorem arrsG_gr {K : ByteArray → GT} {P : ByteArray → Prop} {A : Nat} (hA : A ≤ 1000000000) (hK : ∀ acc : ByteArray, acc.size ≤ A → GQ (fun t => ∃ u, P u ∧ t = acc ++ u) (K acc)) : ∀ (l : List Ar) (acc : ByteArray), okA l = true → acc.size + wtA l ≤ A → GQ (bhd (arrsI l) P acc) (arrsG K l acc)
 | [], acc, _, h => (hK acc (by omega)).congr (fun t => (bhd_emp P acc t).symm)
 | ⟨nm, sz⟩ :: r, acc, hok, h => by
  simp only [wtA] at h; simp only [okA, Bool.and_eq_true] at hok; have hz := itoaB_size hok.1; have zl0 : (⟨#[97, 114, 114, 97, 121, 32]⟩ : ByteArray).size = 6 := rfl; have zl1 : (⟨#[91]⟩ : ByteArray).size = 1 := rfl; have zl2 : (⟨#[93, 59, 10]⟩ : ByteArray).size = 3 := rfl
  have hs : (((((acc ++ (⟨#[97, 114, 114, 97, 121, 32]⟩ : ByteArray)) ++ nm) ++ (⟨#[91]⟩ : ByteArray)) ++ itoaB sz) ++ (⟨#[93, 59, 10]⟩ : ByteArray)).size ≤ acc.size + nm.size + 40 := by simp only [sz2]; omega
  simp only [arrsG, chkS_yes (show nm.size ≤ 1073741824 by omega), hok.1, chkS_yes (show (((((acc ++ (⟨#[97, 114, 114, 97, 121, 32]⟩ : ByteArray)) ++ nm) ++ (⟨#[91]⟩ : ByteArray)) ++ itoaB sz) ++ (⟨#[93, 59, 10]⟩ : ByteArray)).size ≤ 1073741824 by omega), Bool.and_self, nameG_eq, arrsI]
  have hd : (decide (sz < 0)) = !(decide (sz ≥ 0)) := by
   by_cases q : sz < 0
   ·rw [decide_eq_true q, decide_eq_false (by omega)]; rfl
   rw [decide_eq_false q, decide_eq_true (by omega)]; rfl
  have hd2 : (decide (sz > 1099511627776)) = !(decide (sz ≤ 1099511627776)) := by
   by_cases q : sz ≤ 1099511627776
   ·rw [decide_eq_true q, decide_eq_false (by omega)]; rfl
   rw [decide_eq_false q, decide_eq_true (by omega)]; rfl
  rw [hd, hd2]
  cases hq : isNameF nm with
  | false =>
   refine GQ.no (fun t ht => ?_); obtain ⟨_, _, hv, _⟩ := ht; exact absurd (has_grd.1 (has_grd.1 hv).2).1 (by decide)
  | true =>
   cases h1 : decide (sz ≥ 0) with
   | false =>
    refine GQ.no (fun t ht => ?_); obtain ⟨_, _, hv, _⟩ := ht; exact absurd (has_grd.1 hv).1 (by simp)
   | true =>
    cases h2 : decide (sz ≤ 1099511627776) with
    | false =>
     refine GQ.no (fun t ht => ?_); obtain ⟨_, _, hv, _⟩ := ht; exact absurd (has_grd.1 hv).1 (by simp)
    | true =>
     simp only [Bool.not_true, TM.grd, Bool.and_self, Bool.or_self]; refine (arrsG_gr hA hK r _ hok.2 (by omega)).congr (fun t => ?_); rw [bhd_sq, ln0]; simp only [lsp7, ByteArray.append_assoc]
theorem prmG_run {K : Bool → ByteArray → GT} : ∀ (l pr : List ByteArray) (ok : Bool), wtV l + ssz 2 pr ≤ 1000000000 → prmG K l pr.length ok (joinB pr (⟨#[44, 32]⟩ : ByteArray)) = K (ok && allN l) (joinB (pr ++ l) (⟨#[44, 32]⟩ : ByteArray))
 | [], pr, ok, _ => by simp [prmG, allN]
 | v :: r, pr, ok, h => by
  simp only [wtV] at h; have hs := joinB_size (pr ++ [v]) (⟨#[44, 32]⟩ : ByteArray); have e2 : (⟨#[44, 32]⟩ : ByteArray).size = 2 := rfl; rw [e2] at hs
  have hz : ssz 2 (pr ++ [v]) ≤ ssz 2 pr + (v.size + 2) := by rw [ssz_append]; simp only [ssz]; omega
  simp only [prmG]; rw [← joinB_snoc]; simp only [chkS_yes (show v.size ≤ 1073741824 by omega), chkS_yes (show (joinB (pr ++ [v]) (⟨#[44, 32]⟩ : ByteArray)).size ≤ 1073741824 by omega), Bool.and_self, nameG_eq]; have ih := prmG_run (K := K) r (pr ++ [v]) (ok && isNameF v) (by omega); rw [List.length_append] at ih; rw [show pr.length + 1 = pr.length + [v].length from rfl, ih]
  simp [allN, Bool.and_assoc]
theorem procsG_gr {n f : Nat} {K : ByteArray → GT} {P : ByteArray → Prop} {A : Nat} (hA : A ≤ 1000000000) (hK : ∀ acc : ByteArray, acc.size ≤ A → GQ (fun t => ∃ u, P u ∧ t = acc ++ u) (K acc)) : ∀ (l : List Pc) (acc : ByteArray), okP' n f l = true → acc.size + wtP l ≤ A → GQ (bhd (procsI l) P acc) (procsG n (blockN n f) K l acc)
 | [], acc, _, h => (hK acc (by omega)).congr (fun t => (bhd_emp P acc t).symm)
 | ⟨nm, ps, bd, rt⟩ :: r, acc, hok, h => by
  simp only [wtP] at h; simp only [okP', Bool.and_eq_true, decide_eq_true_eq] at hok; have hl := wtV_len ps; have hj := joinB_size2 ps; have hcl : chkL ps.length = true := decide_eq_true (by omega); have hrun := prmG_run (K := procK n (blockN n f) nm bd rt acc (procsG n (blockN n f) K r)) ps [] (isNameG nm) (by simp only [ssz]; omega); rw [joinB_nil] at hrun; simp only [procsG, chkS_yes (show nm.size ≤ 1073741824 by omega), hcl, Bool.and_self]; rw [show (0 : Nat) = ([] : List ByteArray).length from rfl, hrun]; simp only [List.nil_append, procK]; obtain ⟨bt, fine, e1, g1, g2, g3⟩ := (blockN_gr n f bd 1 (by omega) hok.1.1.1 (by omega)).ex; obtain ⟨et, good, e2, f1, f2, f3⟩ := (expr_one n rt hok.1.2.2 hok.1.2.1 (by omega)).ex; rw [show (((1 : Nat) : Int)) = 1 from rfl] at e1; have zl0 : (⟨#[112, 114, 111, 99, 32]⟩ : ByteArray).size = 5 := rfl; have zl1 : (⟨#[40]⟩ : ByteArray).size = 1 := rfl; have zl2 : (⟨#[41, 32, 123, 10]⟩ : ByteArray).size = 4 := rfl; have zl3 : (⟨#[32, 32, 114, 101, 116, 117, 114, 110, 32]⟩ : ByteArray).size = 9 := rfl; have zl4 : (⟨#[59, 10, 125, 10]⟩ : ByteArray).size = 4 := rfl; obtain ⟨l, hl2⟩ : ∃ l, joinB ps (⟨#[44, 32]⟩ : ByteArray) = l := ⟨_, rfl⟩; rw [hl2] at hj ⊢
  have hs : (((((((((acc ++ (⟨#[112, 114, 111, 99, 32]⟩ : ByteArray)) ++ nm) ++ (⟨#[40]⟩ : ByteArray)) ++ l) ++ (⟨#[41, 32, 123, 10]⟩ : ByteArray)) ++ bt) ++ (⟨#[32, 32, 114, 101, 116, 117, 114, 110, 32]⟩ : ByteArray)) ++ et) ++ (⟨#[59, 10, 125, 10]⟩ : ByteArray)).size ≤ acc.size + nm.size + wtV ps + wtB bd + wtE rt + 40 := by simp only [sz2]; omega
  simp only [e1, e2, chkS_yes (show bt.size ≤ 1073741824 by omega), chkS_yes (show et.size ≤ 1073741824 by omega), chkS_yes (show (((((((((acc ++ (⟨#[112, 114, 111, 99, 32]⟩ : ByteArray)) ++ nm) ++ (⟨#[40]⟩ : ByteArray)) ++ l) ++ (⟨#[41, 32, 123, 10]⟩ : ByteArray)) ++ bt) ++ (⟨#[32, 32, 114, 101, 116, 117, 114, 110, 32]⟩ : ByteArray)) ++ et) ++ (⟨#[59, 10, 125, 10]⟩ : ByteArray)).size ≤ 1073741824 by omega), Bool.and_self, nameG_eq]
  have inv : ∀ t, bhd (procsI (⟨nm, ps, bd, rt⟩ :: r)) P acc t ↔ (allN ps = true ∧ isNameF nm = true) ∧ ∃ b' e', has (blockI bd 1) b' ∧ has (exprI rt 1 1) e' ∧ bhd (procsI r) P (((((((((acc ++ (⟨#[112, 114, 111, 99, 32]⟩ : ByteArray)) ++ nm) ++ (⟨#[40]⟩ : ByteArray)) ++ l) ++ (⟨#[41, 32, 123, 10]⟩ : ByteArray)) ++ b') ++ (⟨#[32, 32, 114, 101, 116, 117, 114, 110, 32]⟩ : ByteArray)) ++ e') ++ (⟨#[59, 10, 125, 10]⟩ : ByteArray)) t := by
   intro t
   unfold bhd
   simp only [procsI]
   constructor
   ·rintro ⟨v, u, hv, hu, rfl⟩
    obtain ⟨q1, hv⟩ := has_grd.1 hv; obtain ⟨q2, hv⟩ := has_grd.1 hv; obtain ⟨a1, b1, ha1, hb1, rfl⟩ := has_sq.1 hv; obtain ⟨a2, b2, ha2, hb2, rfl⟩ := has_sq.1 hb1; obtain ⟨a3, b3, ha3, hb3, rfl⟩ := has_sq.1 hb2; obtain ⟨a4, b4, ha4, hb4, rfl⟩ := has_sq.1 hb3; obtain ⟨e', he', ha3⟩ := has_bd.1 ha3; have ha1 := has_ret.1 ha1; have ha3 := has_ret.1 ha3; have ha4 := has_ret.1 ha4; subst ha1 ha3 ha4; refine ⟨⟨q1, q2⟩, a2, e', ha2, he', b4, u, hb4, hu, ?_⟩; rw [ln0, ln0, hl2]; simp only [lnI, show indent 1 = (⟨#[32, 32]⟩ : ByteArray) from rfl, lsp3, lsp4, lsp8, lsp10, lsp11, ByteArray.append_assoc]
   rintro ⟨⟨q1, q2⟩, b', e', hb', he', v, u, hv, hu, rfl⟩; refine ⟨_, u, has_grd.2 ⟨q1, has_grd.2 ⟨q2, has_sq.2 ⟨_, _, has_ret.2 rfl, has_sq.2 ⟨b', _, hb', has_sq.2 ⟨_, _, has_bd.2 ⟨e', he', has_ret.2 rfl⟩, has_sq.2 ⟨_, v, has_ret.2 rfl, hv, rfl⟩, rfl⟩, rfl⟩, rfl⟩⟩⟩, hu, ?_⟩; rw [ln0, ln0, hl2]; simp only [lnI, show indent 1 = (⟨#[32, 32]⟩ : ByteArray) from rfl, lsp3, lsp4, lsp8, lsp10, lsp11, ByteArray.append_assoc]
  cases hq : ((((!(isNameF nm && allN ps)) || (!fine)) || (!good)) || decide ((acc.size : Int) > 4000)) with
  | true =>
   refine GQ.no (fun t ht => ?_); obtain ⟨⟨q1, q2⟩, b', e', hb', he', v, u, hv, hu, rfl⟩ := (inv t).1 ht; simp only [sz2]; rw [q1, q2] at hq; simp only [Bool.and_self, Bool.not_true, Bool.false_or, Bool.or_eq_true, Bool.not_eq_true', decide_eq_true_eq] at hq
   rcases hq with (q | q) | q
   ·rcases Nat.lt_or_ge 4000 b'.size with w | w
    ·omega
    have := g3 b' hb' w; rw [q] at this; cases this
   ·rcases Nat.lt_or_ge 4000 e'.size with w | w
    ·omega
    have := f3 e' he' w; rw [q] at this; cases this
   omega
  | false =>
   simp only [Bool.or_eq_false_iff, Bool.not_eq_false', Bool.and_eq_true] at hq; have hbt := g2 hq.1.1.2; have het := f2 hq.1.2; refine (procsG_gr hA hK r _ hok.2 (by omega)).congr (fun t => ?_); rw [inv]
   constructor
   ·intro h; exact ⟨⟨hq.1.1.1.2, hq.1.1.1.1⟩, bt, et, hbt, het, h⟩
   rintro ⟨_, b', e', hb', he', h⟩; have := has_fun hb' hbt; have := has_fun he' het
   subst_vars
   exact h
theorem mainG_gr {n f : Nat} (m : List Sm) (hok : okB n m = true) (hf : fuB m ≤ f) (acc : ByteArray) (h : acc.size + wtB m ≤ 900000000) : GQ (fun t => ∃ u, has (mainI m) u ∧ t = acc ++ u) (mainG (blockN n f) m acc) := by
 obtain ⟨mt, ok, e1, g1, g2, g3⟩ := (blockN_gr n f m 1 hf hok (by omega)).ex; rw [show (((1 : Nat) : Int)) = 1 from rfl] at e1; have zl0 : (⟨#[109, 97, 105, 110, 32, 123, 10]⟩ : ByteArray).size = 7 := rfl; have zl1 : (⟨#[125, 10]⟩ : ByteArray).size = 2 := rfl
 have inv : ∀ t, (∃ u, has (mainI m) u ∧ t = acc ++ u) ↔ ∃ b', has (blockI m 1) b' ∧ t = ((acc ++ (⟨#[109, 97, 105, 110, 32, 123, 10]⟩ : ByteArray)) ++ b') ++ (⟨#[125, 10]⟩ : ByteArray) := by
  intro t
  unfold mainI
  constructor
  ·rintro ⟨u, hu, rfl⟩
   obtain ⟨a1, b1, ha1, hb1, rfl⟩ := has_sq.1 hu; obtain ⟨a2, b2, ha2, hb2, rfl⟩ := has_sq.1 hb1; have ha1 := has_ret.1 ha1; have hb2 := has_ret.1 hb2; subst ha1 hb2; exact ⟨a2, ha2, by simp only [ln0, lsp4, lsp9, ByteArray.append_assoc]⟩
  rintro ⟨b', hb', rfl⟩; exact ⟨_, has_sq.2 ⟨_, _, has_ret.2 rfl, has_sq.2 ⟨b', _, hb', has_ret.2 rfl, rfl⟩, rfl⟩, by simp only [ln0, lsp4, lsp9, ByteArray.append_assoc]⟩
 have hs : (((acc ++ (⟨#[109, 97, 105, 110, 32, 123, 10]⟩ : ByteArray)) ++ mt) ++ (⟨#[125, 10]⟩ : ByteArray)).size ≤ acc.size + mt.size + 9 := by simp only [sz2]; omega
 simp only [mainG, e1, chkS_yes (show mt.size ≤ 1073741824 by omega)]; rw [fitG_small (by omega)]; refine GQ.congr (p := fun t => ∃ b', has (blockI m 1) b' ∧ t = ((acc ++ (⟨#[109, 97, 105, 110, 32, 123, 10]⟩ : ByteArray)) ++ b') ++ (⟨#[125, 10]⟩ : ByteArray)) ⟨⟨_, _, rfl, fun q => ?_, fun t ht hs => ?_⟩⟩ (fun t => (inv t).symm)
 ·simp only [Bool.and_eq_true, decide_eq_true_eq] at q
  exact ⟨⟨mt, g2 q.1, rfl⟩, by omega⟩
 obtain ⟨b', hb', rfl⟩ := ht; have hok := g3 b' hb' (by simp only [sz2] at hs; omega); have := has_fun hb' (g2 hok); subst this; rw [hok, decide_eq_true (by omega)]
 rfl
/-- What ProgramText comes to is what lang.Text comes to. -/
theorem prog_law (n f : Nat) (p : Pg) (hok : okPg n f p = true) (hw : wtPg p ≤ 400000000) : ∃ s b, progG n f p = some (s, b) ∧ (b = true → textF n f p = .ok s) ∧ (b = false → textF n f p = .bad) := by
 have hok0 := hok; have hw0 := hw; simp only [okPg, Bool.and_eq_true, decide_eq_true_eq] at hok; simp only [wtPg] at hw; have l1 := wtV_len p.vars; have l2 := wtA_len p.arrays; have l3 := wtP_len p.procs; have c1 : chkL p.vars.length = true := decide_eq_true (by omega); have c2 : chkL p.arrays.length = true := decide_eq_true (by omega); have c3 : chkL p.procs.length = true := decide_eq_true (by omega); have e0 : (⟨#[]⟩ : ByteArray).size = 0 := rfl; have h1 : ∀ acc : ByteArray, acc.size ≤ wtV p.vars + wtA p.arrays + wtP p.procs → GQ (fun t => ∃ u, has (mainI p.main) u ∧ t = acc ++ u) (mainG (blockN n f) p.main acc) := fun acc ha => mainG_gr p.main hok.2.1 (by omega) acc (by omega)
 have h2 : ∀ acc : ByteArray, acc.size ≤ wtV p.vars + wtA p.arrays → GQ (fun t => ∃ u, has (sqI (procsI p.procs) (mainI p.main)) u ∧ t = acc ++ u) (procsG n (blockN n f) (mainG (blockN n f) p.main) p.procs acc) := fun acc ha => (procsG_gr (by omega) h1 p.procs acc hok.1.2 (by omega)).congr (fun t => by
  constructor
  ·rintro ⟨v, u, hv, hu, rfl⟩; exact ⟨_, has_sq.2 ⟨v, u, hv, hu, rfl⟩, rfl⟩
  rintro ⟨w, hw, rfl⟩; obtain ⟨v, u, hv, hu, rfl⟩ := has_sq.1 hw; exact ⟨v, u, hv, hu, rfl⟩)
 have h3 : ∀ acc : ByteArray, acc.size ≤ wtV p.vars → GQ (fun t => ∃ u, has (sqI (arrsI p.arrays) (sqI (procsI p.procs) (mainI p.main))) u ∧ t = acc ++ u) (arrsG (procsG n (blockN n f) (mainG (blockN n f) p.main) p.procs) p.arrays acc) := fun acc ha => (arrsG_gr (by omega) h2 p.arrays acc hok.1.1 (by omega)).congr (fun t => by
  constructor
  ·rintro ⟨v, u, hv, hu, rfl⟩; exact ⟨_, has_sq.2 ⟨v, u, hv, hu, rfl⟩, rfl⟩
  rintro ⟨w, hw, rfl⟩; obtain ⟨v, u, hv, hu, rfl⟩ := has_sq.1 hw; exact ⟨v, u, hv, hu, rfl⟩)
 have h4 := varsG_gr (by omega) h3 p.vars ⟨#[]⟩ (by omega)
 have em : ∀ a : ByteArray, (⟨#[]⟩ : ByteArray) ++ a = a := fun a => by apply ByteArray.ext; simp
 have h5 : GQ (has (progI p)) (progG n f p) := by
  unfold progG
  rw [c1, c2, c3]
  exact h4.congr (fun t => by
   constructor
   ·rintro ⟨v, u, hv, hu, rfl⟩; rw [em]; exact has_sq.2 ⟨v, u, hv, hu, rfl⟩
   intro h; obtain ⟨v, u, hv, hu, rfl⟩ := has_sq.1 h; exact ⟨v, u, hv, hu, by rw [em]⟩)
 obtain ⟨s, b, e, g1, g2⟩ := h5.ex; refine ⟨s, b, e, fun q => ?_, fun q => ?_⟩
 ·obtain ⟨⟨k, hk⟩, hs⟩ := g1 q
  rw [textF_law' n f p hok0 (by omega), hk]; simp only [decide_eq_true hs]
 rw [textF_law' n f p hok0 (by omega)]
 cases hx : progI p with
 | none => rfl
 | some y =>
  obtain ⟨t, k⟩ := y; simp only; rw [decide_eq_false]; intro hs; have := g2 t ⟨k, hx⟩ hs; rw [q] at this; cases this
end Go.Abs
end
section
namespace Go.Abs
open Go Go.Proofs
attribute [local irreducible] aCall AWp Sub Spec
section
variable {t : Nat → TypeId} {u : Nat → Value}
theorem coded_err (hE : ErrsOk t u) (k : Nat) (hk : k ≤ 7) (c : Int) : Spec Tryz.prog (GV t u) 25 [.d (.s (.iface (t k) (u k))), .d (num c)] [] (.ret (.d (.s (.bool (((posOf k + 1 : Int) == c) && ((-1 : Int) == -1)))))) [] := by
 refine spec_of_awp2 TT_ok (N := 19) Tryz.func25 rfl (by rfl) (Nat.le_refl _) rfl ?_; refine rgs fun E K J O => ?_; refine O _ (aN [0, 1] rfl rfl ?_); clear O J K E; refine rgs fun E K J O => ?_; show aCall _ _ _ _ _ _ _; refine aR [] rfl rfl rfl (code_err hE k hk) rfl rfl rfl rfl ?_; refine O _ (aN [1, 5, 6] rfl rfl ?_); clear O J K E; refine rgs fun E K J O => ?_; refine onB_intro (fun h1 => ?_) (fun h1 => ?_)
 ·refine O _ (aN [4] rfl rfl ?_); clear O J K E; refine awp_ret ?_
  exact ⟨_, [], _, [.d (.s (.bool _))], rfl, rfl, rfl, rfl, rfl, by (first | exact PWs.refl _ | (simp only [h1, bz]; exact PWs.refl _)), rfl⟩
 refine O _ (aN [4] rfl rfl ?_); clear O J K E; refine awp_ret ?_; exact ⟨_, [], _, [.d (.s (.bool _))], rfl, rfl, rfl, rfl, rfl, by (first | exact PWs.refl _ | (simp only [h1, bz]; exact PWs.refl _)), rfl⟩
theorem coded_nil (c : Int) : Spec Tryz.prog (GV t u) 25 [.d (.s .nilIface), .d (num c)] [] (.ret (.d (.s (.bool (((0 : Int) == c) && ((-1 : Int) == -1)))))) [] := by
 refine spec_of_awp2 TT_ok (N := 19) Tryz.func25 rfl (by rfl) (Nat.le_refl _) rfl ?_; refine rgs fun E K J O => ?_; refine O _ (aN [0, 1] rfl rfl ?_); clear O J K E; refine rgs fun E K J O => ?_; show aCall _ _ _ _ _ _ _; refine aR [] rfl rfl rfl (code_nil) rfl rfl rfl rfl ?_; refine O _ (aN [1, 5, 6] rfl rfl ?_); clear O J K E; refine rgs fun E K J O => ?_; refine onB_intro (fun h1 => ?_) (fun h1 => ?_)
 ·refine O _ (aN [4] rfl rfl ?_); clear O J K E; refine awp_ret ?_
  exact ⟨_, [], _, [.d (.s (.bool _))], rfl, rfl, rfl, rfl, rfl, by (first | exact PWs.refl _ | (simp only [h1, bz]; exact PWs.refl _)), rfl⟩
 refine O _ (aN [4] rfl rfl ?_); clear O J K E; refine awp_ret ?_; exact ⟨_, [], _, [.d (.s (.bool _))], rfl, rfl, rfl, rfl, rfl, by (first | exact PWs.refl _ | (simp only [h1, bz]; exact PWs.refl _)), rfl⟩
end
end Go.Abs
end
