/- Texts of this proof, joined: AbsT, AbsS, AbsR, AbsU, AbsV, AbsW, AbsX, AbsSA, AbsY. -/
import Derived.Test.YtedljfabpknjiaaGreatDoorProg
import Derived.Test.YtedljfabpknjiaaGreatDoorP4
import Derived.OrdersHeld
import Derived.Deep.RegionHeld3
import Derived.Laws.BitsLemmas
import Derived.RowKit
section
namespace Go.Abs
open Go
abbrev vs0:Value:=Value.string { data:={ toList:=[] } }
abbrev ti(d:TK)(s b:Nat)(z:List Value):Option TI:=some { desc:=d,size:=s,bytes:=b,zero:=z }
def tryzUsed:List Nat:=[1,2,3,4,5,9,17,20,21,23,24,25,26,28,30,33,34,35,37,39,55,56,58,59,60,62,64,67,69,74,76,82,99,101,105,108,109,118,121,122,123,125,127,128,130,132,134,135,138,143,145,148,157,159,161,162,163,165,167,169,179,184,185,186,188,189,191,196,200,205,207,212,213,215,217,219,226,228,234,238,239,244,246,256,259,261,262,269,273,275,279,282,286,288,306,307,309,312,314,336,343,345,373,380,384,386,388,391,397,398,401,402,406,409,411,412,413]
noncomputable def tryzTab:List (List (Option TI)):=[
 [none,ti (.func) 1 8 [.nilFunc],ti (.int .i64) 1 8 [.int .i64 0],ti (.int .i64) 1 8 [.int .i64 0],ti (.bool) 1 1 [.bool false],ti (.int .u8) 1 1 [.int .u8 0],none,none,none,ti (.string) 1 16 [vs0],none,none,none,none,none,none,none,ti (.ptr 425) 1 8 [.pointer none],none,none],
 [ti (.iface) 1 16 [.nilIface],ti (.int .i32) 1 4 [.int .i32 0],none,ti (.slice 9) 1 24 [.slice none 0 0],ti (.slice 169) 1 24 [.slice none 0 0],ti (.slice 159) 1 24 [.slice none 0 0],ti (.slice 217) 1 24 [.slice none 0 0],none,ti (.struct [(0,23),(1,24),(2,25),(3,26)]) 4 96 [.slice none 0 0,.slice none 0 0,.slice none 0 0,.slice none 0 0],none,ti (.iface) 1 16 [.nilIface],none,none,ti (.slice 99) 1 24 [.slice none 0 0],ti (.slice 145) 1 24 [.slice none 0 0],ti (.slice 228) 1 24 [.slice none 0 0],none,ti (.struct [(0,23),(1,33),(2,34),(3,35)]) 4 96 [.slice none 0 0,.slice none 0 0,.slice none 0 0,.slice none 0 0],none,ti (.struct [(0,3),(1,3)]) 2 16 [.int .i64 0,.int .i64 0]],
 [none,none,none,none,none,none,none,none,none,none,none,none,none,none,none,ti (.slice 64) 1 24 [.slice none 0 0],ti (.slice 3) 1 24 [.slice none 0 0],none,ti (.struct [(0,23),(1,33),(2,3),(3,55),(4,56)]) 5 104 [.slice none 0 0,.slice none 0 0,.int .i64 0,.slice none 0 0,.slice none 0 0],ti (.slice 143) 1 24 [.slice none 0 0]],
 [ti (.slice 288) 1 24 [.slice none 0 0],none,ti (.struct [(0,9),(1,9),(2,59),(3,60)]) 4 80 [vs0,vs0,.slice none 0 0,.slice none 0 0],none,ti (.struct [(0,3),(1,3),(2,62)]) 6 96 [.int .i64 0,.int .i64 0,vs0,vs0,.slice none 0 0,.slice none 0 0],none,none,ti (.slice 127) 1 24 [.slice none 0 0],none,ti (.struct [(0,23),(1,24),(2,3),(3,67),(4,56)]) 5 104 [.slice none 0 0,.slice none 0 0,.int .i64 0,.slice none 0 0,.slice none 0 0],none,none,none,none,ti (.slice 56) 1 24 [.slice none 0 0],none,ti (.struct [(0,9),(1,3),(2,56),(3,74)]) 4 72 [vs0,.int .i64 0,.slice none 0 0,.slice none 0 0],none,none,none],
 [none,none,ti (.struct [(0,9),(1,3),(2,56),(3,74)]) 4 72 [vs0,.int .i64 0,.slice none 0 0,.slice none 0 0],none,none,none,none,none,none,none,none,none,none,none,none,none,none,none,none,ti (.struct [(0,9),(1,3)]) 2 24 [vs0,.int .i64 0]],
 [none,ti (.slice 108) 1 24 [.slice none 0 0],none,none,none,ti (.slice 109) 1 24 [.slice none 0 0],none,none,ti (.struct [(0,3),(1,3),(2,56),(3,74)]) 4 64 [.int .i64 0,.int .i64 0,.slice none 0 0,.slice none 0 0],ti (.struct [(0,3),(1,3),(2,56),(3,74)]) 4 64 [.int .i64 0,.int .i64 0,.slice none 0 0,.slice none 0 0],none,none,none,none,none,none,none,none,ti (.slice 121) 1 24 [.slice none 0 0],none],
 [none,ti (.struct [(0,3),(1,3),(2,56),(3,74)]) 4 64 [.int .i64 0,.int .i64 0,.slice none 0 0,.slice none 0 0],ti (.slice 157) 1 24 [.slice none 0 0],ti (.slice 282) 1 24 [.slice none 0 0],none,ti (.struct [(0,9),(1,9),(2,122),(3,123)]) 4 80 [vs0,vs0,.slice none 0 0,.slice none 0 0],none,ti (.struct [(0,3),(1,3),(2,125)]) 6 96 [.int .i64 0,.int .i64 0,vs0,vs0,.slice none 0 0,.slice none 0 0],ti (.ptr 261) 1 8 [.pointer none],none,ti (.ptr 132) 1 8 [.pointer none],none,ti (.struct [(0,9),(1,3),(2,9)]) 3 40 [vs0,.int .i64 0,vs0],none,ti (.ptr 138) 1 8 [.pointer none],ti (.slice 256) 1 24 [.slice none 0 0],none,none,ti (.struct [(0,135),(1,3),(2,39)]) 4 48 [.slice none 0 0,.int .i64 0,.int .i64 0,.int .i64 0],none],
 [none,none,none,ti (.struct [(0,9),(1,3),(2,9),(3,59)]) 4 64 [vs0,.int .i64 0,vs0,.slice none 0 0],none,ti (.struct [(0,9),(1,23),(2,35),(3,143)]) 7 128 [vs0,.slice none 0 0,.slice none 0 0,vs0,.int .i64 0,vs0,.slice none 0 0],none,none,ti (.func) 1 8 [.nilFunc],none,none,none,none,none,none,none,none,ti (.struct [(0,9),(1,3),(2,9),(3,122)]) 4 64 [vs0,.int .i64 0,vs0,.slice none 0 0],none,ti (.struct [(0,9),(1,23),(2,26),(3,157)]) 7 128 [vs0,.slice none 0 0,.slice none 0 0,vs0,.int .i64 0,vs0,.slice none 0 0]],
 [none,ti (.ptr 167) 1 8 [.pointer none],ti (.ptr 165) 1 8 [.pointer none],ti (.slice 5) 1 24 [.slice none 0 0],none,ti (.struct [(0,162),(1,163)]) 2 32 [.pointer none,.slice none 0 0],none,ti (.struct [(0,165),(2,3),(3,4),(4,3)]) 5 56 [.pointer none,.slice none 0 0,.int .i64 0,.bool false,.int .i64 0],none,ti (.struct [(0,9),(1,3)]) 2 24 [vs0,.int .i64 0],none,none,none,none,none,none,none,none,none,ti (.slice 4) 1 24 [.slice none 0 0]],
 [none,none,none,none,ti (.ptr 191) 1 8 [.pointer none],ti (.map 9 3) 1 8 [.map none],ti (.map 9 56) 1 8 [.map none],none,ti (.struct [(0,185),(1,186)]) 2 16 [.map none,.map none],ti (.map 9 159) 1 8 [.map none],none,ti (.struct [(0,188),(2,189),(3,56),(4,3),(5,3)]) 6 64 [.map none,.map none,.map none,.slice none 0 0,.int .i64 0,.int .i64 0],none,none,none,none,ti (.struct [(0,23),(1,23),(2,25)]) 3 72 [.slice none 0 0,.slice none 0 0,.slice none 0 0],none,none,none],
 [ti (.func) 1 8 [.nilFunc],none,none,none,none,ti (.ptr 207) 1 8 [.pointer none],none,ti (.struct [(0,25),(1,3)]) 2 32 [.slice none 0 0,.int .i64 0],none,none,none,none,ti (.map 9 4) 1 8 [.map none],ti (.func) 1 8 [.nilFunc],none,ti (.slice 123) 1 24 [.slice none 0 0],none,ti (.struct [(0,9),(1,9),(2,9),(3,122),(4,215),(5,26),(6,26)]) 7 144 [vs0,vs0,vs0,.slice none 0 0,.slice none 0 0,.slice none 0 0,.slice none 0 0],none,ti (.func) 1 8 [.nilFunc]],
 [none,none,none,none,none,none,ti (.slice 60) 1 24 [.slice none 0 0],none,ti (.struct [(0,9),(1,9),(2,9),(3,59),(4,226),(5,35),(6,35)]) 7 144 [vs0,vs0,vs0,.slice none 0 0,.slice none 0 0,.slice none 0 0,.slice none 0 0],none,none,none,none,none,ti (.ptr 238) 1 8 [.pointer none],none,none,none,ti (.struct [(0,23),(1,56),(2,33),(3,74),(4,34),(5,56),(6,3),(7,3),(8,9)]) 9 176 [.slice none 0 0,.slice none 0 0,.slice none 0 0,.slice none 0 0,.slice none 0 0,.slice none 0 0,.int .i64 0,.int .i64 0,vs0],ti (.ptr 58) 1 8 [.pointer none]],
 [none,none,none,none,ti (.ptr 246) 1 8 [.pointer none],none,ti (.struct [(0,69),(5,4)]) 6 112 [.slice none 0 0,.slice none 0 0,.int .i64 0,.slice none 0 0,.slice none 0 0,.bool false],none,none,none,none,none,none,none,none,none,ti (.struct [(0,9),(1,3)]) 2 24 [vs0,.int .i64 0],none,none,ti (.ptr 128) 1 8 [.pointer none]],
 [none,ti (.struct [(0,3),(1,30)]) 2 24 [.int .i64 0,.nilIface],ti (.slice 30) 1 24 [.slice none 0 0],none,none,none,none,none,none,ti (.ptr 5) 1 8 [.pointer none],none,none,none,ti (.string) 1 16 [vs0],none,ti (.slice 23) 1 24 [.slice none 0 0],none,none,none,ti (.func) 1 8 [.nilFunc]],
 [none,none,ti (.struct [(0,157),(4,9),(5,157)]) 9 144 [vs0,.int .i64 0,vs0,.slice none 0 0,vs0,vs0,.int .i64 0,vs0,.slice none 0 0],none,none,none,ti (.int .u64) 1 8 [.int .u64 0],none,ti (.struct [(0,143),(4,9),(5,143)]) 9 144 [vs0,.int .i64 0,vs0,.slice none 0 0,vs0,vs0,.int .i64 0,vs0,.slice none 0 0],none,none,none,none,none,none,none,none,none,none,none],
 [none,none,none,none,none,none,none,ti (.int .u64) 1 8 [.int .u64 0],none,ti (.struct [(0,17),(1,306),(2,307)]) 3 24 [.pointer none,.pointer none,.int .u64 0],none,none,ti (.iface) 1 16 [.nilIface],none,ti (.int .u8) 1 1 [.int .u8 0],none,none,none,none,none],
 [none,none,none,none,none,none,none,none,none,none,none,none,none,none,none,none,ti (.int .i64) 1 8 [.int .i64 0],none,none,none],
 [none,none,none,ti (.int .u32) 1 4 [.int .u32 0],none,ti (.int .u64) 1 8 [.int .u64 0],none,none,none,none,none,none,none,none,none,none,none,none,none,none],
 [none,none,none,none,none,none,none,none,none,none,none,none,none,none,none,none,none,none,none,none],
 [ti (.int .u64) 1 8 [.int .u64 0],none,none,none,ti (.ptr 3) 1 8 [.pointer none],none,ti (.map 9 9) 1 8 [.map none],none,ti (.int .i64) 1 8 [.int .i64 0],none,none,ti (.ptr 406) 1 8 [.pointer none],none,none,none,none,none,none,none,none],
 [none,none,ti (.slice 401) 1 24 [.slice none 0 0],none,none,none,ti (.struct [(0,9),(1,9),(2,30)]) 3 48 [vs0,vs0,.nilIface],none,none,ti (.ptr 411) 1 8 [.pointer none],none,ti (.struct [(0,9)]) 1 16 [vs0],none,none,none,none,none,none,none,none],
 [none,none,none,none,none,none,none,none,none,none,none,none,none,none,none,none,none,none,none,none]]
noncomputable abbrev TT:Tab:=tabC tryzTab
theorem TT_ok:TabOk Go.Proofs.Tryz.prog TT:=tabU_ok (u:=tryzUsed) (by kernel_rfl)
theorem rgn{D:List Deferred}{G:Glob}{N B:Nat}{X:St}{ops:Array Oper}{id:Nat}{Q:AExit→St→Prop}(h:∀(pan:PV→St→Prop) (K:St→Prop),(∀p X,Q (.pan p) X→pan p X)→(∀X,Q .normal X→K X)→aops Go.Proofs.Tryz.prog TT G N ops pan (List.range ops.size) K X):AWp D Go.Proofs.Tryz.prog G N B (.region id ops false) Q X:=awp_region_k TT_ok h
theorem rgs{D:List Deferred}{G:Glob}{N B:Nat}{X:St}{ops:Array Oper}{id:Nat}{y:Code}{Q:AExit→St→Prop}(h:∀(pan:PV→St→Prop) (K:St→Prop),(∀p X,Then (AWp D Go.Proofs.Tryz.prog G N B y Q) Q (.pan p) X→pan p X)→(∀X,Then (AWp D Go.Proofs.Tryz.prog G N B y Q) Q .normal X→K X)→aops Go.Proofs.Tryz.prog TT G N ops pan (List.range ops.size) K X):AWp D Go.Proofs.Tryz.prog G N B (.seq (.region id ops false) y) Q X:=awp_seq (rgn h)
theorem aN{D:List Deferred}{G:Glob}{N B:Nat}{X:St}{c:Code}{Q:AExit→St→Prop}(slots:List Nat){env':List (Nat×PV)}{rows':List Row}(h1:pickEnv X.env slots=some env')(h2:forceRows X.rows=some rows')(h:AWp D Go.Proofs.Tryz.prog G N B c Q ⟨env',rows'⟩):AWp D Go.Proofs.Tryz.prog G N B c Q X:=awp_norm slots h1 h2 h
theorem aR{P:Program}{G:Glob}{X:St}(L:List Nat){f:FuncId}{ps args':List PV}{rowsL rowsL' rows1 rows2:List Row}{p p':PV}{env':List (Nat×PV)}{k:PV→St→List Nat→Prop}{pan:PV→St→Prop}(hL:nodupB L=true)(hin:PV.subs (sIn L X.rows) ps=some args')(hrows:pickRows (sIn L X.rows) X.rows L=some rowsL)(hs:Spec P G f args' rowsL (.ret p) rowsL')(hout:demRows (sOut L X.rows.length) rowsL'=some rows2)(henv:demEnv (sKeep L X.rows) X.env=some env')(hk:demRows (sKeep L X.rows) X.rows=some rows1)(hp:PV.sub (sOut L X.rows.length) p=some p')(h:k p' ⟨env',place L rows1 rows2⟩ L):aCall P G X f ps k pan:=aCall_ret hL hin hrows hs hout henv hk hp h
theorem aP{P:Program}{G:Glob}{X:St}(L:List Nat){f:FuncId}{ps args':List PV}{rowsL rowsL' rows1 rows2:List Row}{p p':PV}{env':List (Nat×PV)}{k:PV→St→List Nat→Prop}{pan:PV→St→Prop}(hL:nodupB L=true)(hin:PV.subs (sIn L X.rows) ps=some args')(hrows:pickRows (sIn L X.rows) X.rows L=some rowsL)(hs:Spec P G f args' rowsL (.pan p) rowsL')(hout:demRows (sOut L X.rows.length) rowsL'=some rows2)(henv:demEnv (sKeep L X.rows) X.env=some env')(hk:demRows (sKeep L X.rows) X.rows=some rows1)(hp:PV.sub (sOut L X.rows.length) p=some p')(h:pan p' ⟨env',place L rows1 rows2⟩):aCall P G X f ps k pan:=aCall_pan hL hin hrows hs hout henv hk hp h
theorem rz {D:List Deferred}{G:Glob}{N B:Nat}{X X':St}{ops:Array Oper}{id:Nat}{y:Code}{Q:AExit→St→Prop}(slots:List Nat) {env':List (Nat×PV)}{rows':List Row}(h:AWp D Go.Proofs.Tryz.prog G N B y Q ⟨env',rows'⟩)
 (h0:∀(pan:PV→St→Prop) (K:St→Prop),aops Go.Proofs.Tryz.prog TT G N ops pan (List.range ops.size) K X=K X':=by exact fun _ _=>rfl) (h1:pickEnv X'.env slots=some env':=by rfl) (h2:forceRows X'.rows=some rows':=by rfl):AWp D Go.Proofs.Tryz.prog G N B (.seq (.region id ops false) y) Q X:=
 rgs fun pan K _ hK=>by rw [h0];exact hK _ (awp_norm slots h1 h2 h)
theorem aS{P:Program}{G:Glob}{X:St}(L:List Nat){f:FuncId}{ps args':List PV}{rowsL rowsL' rows1 rows2:List Row}{p p':PV}{env':List (Nat×PV)}{k:PV→St→List Nat→Prop}{pan:PV→St→Prop}(hs:Spec P G f args' rowsL (.ret p) rowsL')(h:k p' ⟨env',place L rows1 rows2⟩ L)(hL:nodupB L=true:=by rfl)(hin:PV.subs (sIn L X.rows) ps=some args':=by rfl)(hrows:pickRows (sIn L X.rows) X.rows L=some rowsL:=by rfl)(hout:demRows (sOut L X.rows.length) rowsL'=some rows2:=by rfl)(henv:demEnv (sKeep L X.rows) X.env=some env':=by rfl)(hk:demRows (sKeep L X.rows) X.rows=some rows1:=by rfl)(hp:PV.sub (sOut L X.rows.length) p=some p':=by rfl):aCall P G X f ps k pan:=aCall_ret hL hin hrows hs hout henv hk hp h
theorem bz:(∀b,(true||b)=true)∧(∀b,(false||b)=b)∧(∀b,(b||true)=true)∧(∀b,(b||false)=b)∧((!true)=false)∧((!false)=true)∧(∀b,(true&&b)=b)∧(∀b,(false&&b)=false)∧(∀b,(b&&false)=false)∧(∀b,(b&&true)=b)∧(∀b,(b||b)=b)∧(∀b,(b&&b)=b):=⟨Bool.true_or,Bool.false_or,Bool.or_true,Bool.or_false,Bool.not_true,Bool.not_false,Bool.true_and,Bool.false_and,Bool.and_false,Bool.and_true,Bool.or_self,Bool.and_self⟩
theorem bn:(∀b,(true||b)=true)∧(∀b,(false||b)=b)∧(∀b,(b||true)=true)∧(∀b,(b||false)=b)∧((!true)=false)∧((!false)=true)∧(∀b,(true&&b)=b)∧(∀b,(false&&b)=false)∧(∀b,(b&&false)=false)∧(∀b,(b&&true)=b)∧(∀b,(!!b)=b):=⟨Bool.true_or,Bool.false_or,Bool.or_true,Bool.or_false,Bool.not_true,Bool.not_false,Bool.true_and,Bool.false_and,Bool.and_false,Bool.and_true,Bool.not_not⟩
end Go.Abs
end
section
namespace Go.Abs.PrintLast
open Go

section
variable {P:Program}{ops:Array Oper}{Q:Exit→Act→World→Prop}{md:Region.Mode}{S:World→Prop}{ds:List Nat}

/-- Operation d waits for operation i, by a chain of at most 'fuel' edges. -/
def Region.reachB(md:Region.Mode)(ops:Array Oper)(i:Nat):Nat→Nat→Bool
 |0,_=>false
 |fuel+1,d=>match ops[d]? with
  |some o=>o.after.any fun e=>Region.binds md e&&(e.on==i||Region.reachB md ops i fuel e.on)
  |none=>false

/-- What is listed is closed under the edges. -/
def Region.closedB(md:Region.Mode)(ops:Array Oper)(listed:Array Bool):Bool:=
 (List.range ops.size).all fun j=>!listed.getD j false||match ops[j]? with
  |some o=>o.after.all fun e=>!Region.binds md e||listed.getD e.on false
  |none=>true

/-- Each of ds that has not come up yet waits for number i. -/
def Region.lastB(md:Region.Mode)(ops:Array Oper)(listed:Array Bool)(ds:List Nat)(i:Nat):Bool:=
 ds.all fun d=>listed.getD d true||Region.reachB md ops i ops.size d

def ListedClosed(md:Region.Mode)(ops:Array Oper)(listed:Array Bool):Prop:=
 ∀j oj,ops[j]? = some oj→listed.getD j false=true→∀e∈oj.after,Region.binds md e=true→listed.getD e.on false=true

theorem Region.closedB_spec{listed:Array Bool}(h:Region.closedB md ops listed=true):ListedClosed md ops listed:=by
 intro j oj hj hl e he hb
 have hlt:j<ops.size:=(Array.getElem?_eq_some_iff.1 hj).1
 have h1:=List.all_eq_true.1 h j (List.mem_range.2 hlt)
 simp only [hl,hj,Bool.not_true,Bool.false_or] at h1
 have h2:=Array.all_eq_true_iff_forall_mem.1 h1 e he
 simpa [hb] using h2

theorem ListedClosed.set{listed:Array Bool}{i:Nat}(h:ListedClosed md ops listed)(hi:i∈Region.ready md ops listed):ListedClosed md ops (listed.setIfInBounds i true):=by
 obtain ⟨_,oi,hoi,hall⟩:=mem_ready.1 hi
 intro j oj hj hl e he hb
 by_cases hij:i=j
 ·subst hij
  have:oj=oi:=Option.some.inj (hj.symm.trans hoi)
  subst this
  exact getD_set_true (hall e he hb)
 rw [getD_set_ne false hij] at hl
 exact getD_set_true (h j oj hj hl e he hb)

theorem Region.reach_listed{listed:Array Bool}{i:Nat}(hc:ListedClosed md ops listed):∀(fuel d:Nat),Region.reachB md ops i fuel d=true→listed.getD d false=true→listed.getD i false=true
 |0,_,h,_=>by simp [Region.reachB] at h
 |fuel+1,d,h,hl=>by
  unfold Region.reachB at h
  cases ho:ops[d]? with
  |none=>rw [ho] at h;simp at h
  |some o=>
   rw [ho] at h
   obtain ⟨e,he,h1⟩:=Array.any_eq_true'.1 h
   simp only [Bool.and_eq_true,Bool.or_eq_true,beq_iff_eq] at h1
   have hle:=hc d o ho hl e he h1.1
   rcases h1.2 with h2|h2
   ·rw [← h2];exact hle
   exact Region.reach_listed hc fuel e.on h2 hle

/-- What waits for i cannot come up before i is listed. -/
theorem Region.reach_not_ready{listed:Array Bool}{i d fuel:Nat}(hc:ListedClosed md ops listed)(hr:Region.reachB md ops i fuel d=true)(hun:listed.getD i true=false):d∉Region.ready md ops listed:=by
 intro hd
 obtain ⟨_,o,ho,hall⟩:=mem_ready.1 hd
 have hi:listed.getD i false=true:=by
  cases fuel with
  |zero=>simp [Region.reachB] at hr
  |succ n=>
   unfold Region.reachB at hr
   rw [ho] at hr
   obtain ⟨e,he,h1⟩:=Array.any_eq_true'.1 hr
   simp only [Bool.and_eq_true,Bool.or_eq_true,beq_iff_eq] at h1
   have hle:=hall e he h1.1
   rcases h1.2 with h2|h2
   ·rw [← h2];exact hle
   exact Region.reach_listed hc n e.on h2 hle
 rcases Nat.lt_or_ge i listed.size with h'|h'
 ·simp [h'] at hun hi
  rw [hun] at hi
  cases hi
 simp [Array.getElem?_eq_none h'] at hun

/-- Whatever order is picked from here on, AND 'S' HOLDS BEHIND EVERY OPERATION THAT IS CARRIED OUT, those of ds apart. -/
def wpAnyLast(P:Program)(md:Region.Mode)(ops:Array Oper)(Q:Exit→Act→World→Prop)(S:World→Prop)(ds:List Nat):Nat→Array Bool→Act→World→Prop
 |0,listed,a,w=>Region.ready md ops listed=[]∧Q .normal a w
 |fuel+1,listed,a,w=>
  (Region.ready md ops listed=[]→Q .normal a w)∧
  ∀i∈Region.ready md ops listed,wpOp P ops Q i (fun a' w'=>(i∉ds→S w→S w')∧wpAnyLast P md ops Q S ds fuel (listed.setIfInBounds i true) a' w') a w

theorem wpAny_of_last:∀(fuel:Nat) (listed:Array Bool) (a:Act) (w:World),wpAnyLast P md ops Q S ds fuel listed a w→wpAny P md ops Q fuel listed a w
 |0,_,_,_,h=>h
 |fuel+1,_,_,_,h=>⟨h.1,fun i hi=>wpOp_mono (fun a' w' h'=>wpAny_of_last fuel _ a' w' h'.2) (h.2 i hi)⟩

theorem wpAnyLast_first {i:Nat}{oi:Oper}{v:Value}(hi:ops[i]? = some oi) (hsel:∀(j:Nat) (o:Oper) cs b,ops[j]? = some o→o.op≠.select cs b)
  (hQ:∀c a w,Q (.panic c) (a.put oi.dst v) w→Q (.panic c) a w) (n:Nat) :
  ∀(fuel:Nat) (listed:Array Bool) (a:Act) (w:World),
   (∀j oj,ops[j]? = some oj→j≠i→listed.getD j true=false→(∀e∈oj.after,Region.binds md e=true→e.on≠i)→oi.apart ops oj=true)→
   ListedClosed md ops listed→(∀d∈ds,listed.getD d true=false→Region.reachB md ops i n d=true)→
   i∈Region.ready md ops listed→YieldsIf P ops S oi v a→S w→
   wpAnyLast P md ops Q S ds fuel (listed.setIfInBounds i true) (a.put oi.dst v) w→wpAnyLast P md ops Q S ds (fuel+1) listed a w:=by
 intro fuel
 induction fuel with
 |zero=>
  intro listed a w _ _ _ hr hy hS H
  refine ⟨fun h=>(by rw [h] at hr;cases hr),fun j hj=>?_⟩
  by_cases hji:j=i
  ·subst hji;exact hy.wpOp hi hS ⟨fun _ h=>h,H⟩
  have:=ready_mono hj hji
  rw [H.1] at this
  cases this
 |succ fuel ih=>
  intro listed a w hfree hc hd hr hy hS H
  refine ⟨fun h=>(by rw [h] at hr;cases hr),fun j hj=>?_⟩
  by_cases hji:j=i
  ·subst hji;exact hy.wpOp hi hS ⟨fun _ h=>h,H⟩
  have h1:=H.2 j (ready_mono hj hji)
  obtain ⟨hjun,oj,hoj,hall⟩:=mem_ready.1 hj
  have hiun:=(mem_ready.1 hr).1
  have hnot:∀e∈oj.after,Region.binds md e=true→e.on≠i:=fun e he hb heq=>by
   have h1:=hall e he hb
   rw [heq] at h1
   rcases Nat.lt_or_ge i listed.size with h'|h'
   ·simp [h'] at hiun h1;rw [hiun] at h1;cases h1
   simp [Array.getElem?_eq_none h'] at h1
  have hjd:j∉ds:=fun hm=>Region.reach_not_ready hc (hd j hm hjun) hiun hj
  have h2:=wpOp_putIf hoj (hfree j oj hoj hji hjun hnot) (fun cs b=>hsel i oi cs b hi) (fun cs b=>hsel j oj cs b hoj) hQ hy h1
  have hfree':∀k ok,ops[k]? = some ok→k≠i→(listed.setIfInBounds j true).getD k true=false→
    (∀e∈ok.after,Region.binds md e=true→e.on≠i)→oi.apart ops ok=true:=fun k ok hk hki hun hno=>by
   refine hfree k ok hk hki ?_ hno
   by_cases hjk:j=k
   ·subst hjk;exact hjun
   rw [getD_set_ne true hjk] at hun;exact hun
  have hd':∀d∈ds,(listed.setIfInBounds j true).getD d true=false→Region.reachB md ops i n d=true:=fun d hm hun=>by
   refine hd d hm ?_
   by_cases hjk:j=d
   ·subst hjk;exact hjun
   rw [getD_set_ne true hjk] at hun;exact hun
  refine wpOp_mono (fun a' w' h3=>⟨h3.2.1,ih (listed.setIfInBounds j true) a' w' hfree' (hc.set hj) hd' (ready_mono hr (Ne.symm hji)) h3.1 (h3.2.1 hjd hS) ?_⟩) h2
  rw [Array.setIfInBounds_comm _ _ hji]
  exact h3.2.2

/-- Take number 'i' first, which yields whatever the world: no S is asked for, nor that anything waits for it. -/
theorem wpAnyLast_any {i:Nat}{oi:Oper}{v:Value}(hi:ops[i]? = some oi) (hsel:∀(j:Nat) (o:Oper) cs b,ops[j]? = some o→o.op≠.select cs b)
  (hQ:∀c a w,Q (.panic c) (a.put oi.dst v) w→Q (.panic c) a w) :
  ∀(fuel:Nat) (listed:Array Bool) (a:Act) (w:World),
   (∀j oj,ops[j]? = some oj→j≠i→listed.getD j true=false→(∀e∈oj.after,Region.binds md e=true→e.on≠i)→oi.apart ops oj=true)→
   i∈Region.ready md ops listed→Yields P ops oi v a→
   wpAnyLast P md ops Q S ds fuel (listed.setIfInBounds i true) (a.put oi.dst v) w→wpAnyLast P md ops Q S ds (fuel+1) listed a w:=by
 intro fuel
 induction fuel with
 |zero=>
  intro listed a w _ hr hy H
  refine ⟨fun h=>(by rw [h] at hr;cases hr),fun j hj=>?_⟩
  by_cases hji:j=i
  ·subst hji;exact (hy.yieldsIf (S:=fun _=>True)).wpOp hi trivial ⟨fun _ h=>h,H⟩
  have:=ready_mono hj hji
  rw [H.1] at this
  cases this
 |succ fuel ih=>
  intro listed a w hfree hr hy H
  refine ⟨fun h=>(by rw [h] at hr;cases hr),fun j hj=>?_⟩
  by_cases hji:j=i
  ·subst hji;exact (hy.yieldsIf (S:=fun _=>True)).wpOp hi trivial ⟨fun _ h=>h,H⟩
  have h1:=H.2 j (ready_mono hj hji)
  obtain ⟨hjun,oj,hoj,hall⟩:=mem_ready.1 hj
  have hiun:=(mem_ready.1 hr).1
  have hnot:∀e∈oj.after,Region.binds md e=true→e.on≠i:=fun e he hb heq=>by
   have h1:=hall e he hb
   rw [heq] at h1
   rcases Nat.lt_or_ge i listed.size with h'|h'
   ·simp [h'] at hiun h1;rw [hiun] at h1;cases h1
   simp [Array.getElem?_eq_none h'] at h1
  have h2:=wpOp_put hoj (hfree j oj hoj hji hjun hnot) (fun cs b=>hsel i oi cs b hi) (fun cs b=>hsel j oj cs b hoj) hQ hy h1
  have hfree':∀k ok,ops[k]? = some ok→k≠i→(listed.setIfInBounds j true).getD k true=false→
    (∀e∈ok.after,Region.binds md e=true→e.on≠i)→oi.apart ops ok=true:=fun k ok hk hki hun hno=>by
   refine hfree k ok hk hki ?_ hno
   by_cases hjk:j=k
   ·subst hjk;exact hjun
   rw [getD_set_ne true hjk] at hun;exact hun
  refine wpOp_mono (fun a' w' h3=>⟨h3.2.1,ih (listed.setIfInBounds j true) a' w' hfree' (ready_mono hr (Ne.symm hji)) h3.1 ?_⟩) h2
  rw [Array.setIfInBounds_comm _ _ hji]
  exact h3.2.2

/-- Take number 'i' first. -/
theorem wpAnyLast_take {i:Nat}{oi:Oper}{v:Value}{fuel:Nat}{listed:Array Bool}{a:Act}{w:World}(hi:ops[i]? = some oi)
  (hs:Region.noSelect ops=true) (hf:Region.free md ops listed i=true) (hr:(Region.ready md ops listed).contains i=true)
  (hc:Region.closedB md ops listed=true) (hl:Region.lastB md ops listed ds i=true)
  (hQ:∀c a w,Q (.panic c) (a.put oi.dst v) w→Q (.panic c) a w) (hy:YieldsIf P ops S oi v a) (hS:S w)
  (h:wpAnyLast P md ops Q S ds fuel (listed.setIfInBounds i true) (a.put oi.dst v) w):wpAnyLast P md ops Q S ds (fuel+1) listed a w:=
 wpAnyLast_first hi (Region.noSelect_spec hs) hQ ops.size fuel listed a w (Region.free_spec hi hf) (Region.closedB_spec hc)
  (fun d hm hun=>by have:=List.all_eq_true.1 hl d hm;rw [hun] at this;simpa using this) (by simpa using hr) hy hS h

theorem wpAnyLast_all {rs:List Nat}{fuel:Nat}{listed:Array Bool}{a:Act}{w:World}(hr:Region.ready md ops listed=rs) (hne:rs≠[])
  (h:∀i∈rs,wpOp P ops Q i (fun a' w'=>(i∉ds→S w→S w')∧wpAnyLast P md ops Q S ds fuel (listed.setIfInBounds i true) a' w') a w):wpAnyLast P md ops Q S ds (fuel+1) listed a w:=
 ⟨fun h0=>absurd (hr▸h0) hne,hr▸h⟩

theorem wpAnyLast_done{listed:Array Bool}{a:Act}{w:World}(hr:Region.ready md ops listed=[])(h:Q .normal a w):
  ∀fuel,wpAnyLast P md ops Q S ds fuel listed a w
 |0=>⟨hr,h⟩
 |_+1=>⟨fun _=>h,by rw [hr];simp⟩

theorem wp_region_last {id:Nat}{a:Act}{w:World}(hm:P.follows .mixedOrders=true)
  (h:wpAnyLast P .any ops Q S ds ops.size (Array.replicate ops.size false) a { w with drawn:=w.drawn+1 }):(Code.region id ops true).wp P Q a w:=
 wp_region_any hm (wpAny_of_last _ _ _ _ h)

end
end Go.Abs.PrintLast
end
section
namespace Go.Abs
open Go Go.Abs.PrintLast

/-- done; an operation that reads nothing of memory, taken first; one that loads, taken first; the only one that may come up; one of several. -/
inductive Plan where
 |done
 |take (i:Nat) (r:Plan)
 |load (i:Nat) (r:Plan)
 |one (i:Nat) (r:Plan)
 |alt (i:Nat) (p o:Plan)

def Plan.depth:Plan→Nat
 |.done=>0
 |.take _ r=>r.depth+1
 |.load _ r=>r.depth+1
 |.one _ r=>r.depth+1
 |.alt _ p o=>Nat.max (p.depth+1) o.depth
def Plan.heads:Plan→List Nat
 |.alt i _ o=>i::o.heads
 |_=>[]
def takeB(ops:Array Oper)(listed:Array Bool)(i:Nat):Bool:=(Region.ready .any ops listed).contains i&&Region.free .any ops listed i
def planOk(ops:Array Oper)(ds:List Nat):Bool→Array Bool→Bool→Plan→Bool
 |false,listed,_,.done=>Region.ready .any ops listed==[]
 |true,_,_,.done=>true
 |false,listed,fresh,.take i r=>takeB ops listed i&&planOk ops ds false (listed.setIfInBounds i true) fresh r
 |false,listed,fresh,.load i r=>fresh&&takeB ops listed i&&PrintLast.Region.closedB .any ops listed&&PrintLast.Region.lastB .any ops listed ds i&&planOk ops ds false (listed.setIfInBounds i true) fresh r
 |false,listed,_,.one i r=>(Region.ready .any ops listed==[i])&&planOk ops ds false (listed.setIfInBounds i true) false r
 |false,listed,_,.alt i p o=>(Region.ready .any ops listed==i::o.heads)&&planOk ops ds false (listed.setIfInBounds i true) false p&&planOk ops ds true listed false o
 |true,listed,_,.alt i p o=>planOk ops ds false (listed.setIfInBounds i true) false p&&planOk ops ds true listed false o
 |true,_,_,_=>false

def noneOf(KB:Nat→Bool):List Nat→Bool
 |[]=>true
 |x::r=>match KB x with
  |true=>false
  |false=>noneOf KB r
def footOk(KB:Nat→Bool)(ds:List Nat)(i:Nat)(F:List Nat):Bool:=match ds.contains i with
 |true=>true
 |false=>noneOf KB F

def takeStep(T:Tab)(G:Glob)(N:Nat)(ops:Array Oper)(K:Option (Nat→Bool))(i:Nat)(k:St→Prop)(X:St):Prop:=match nth ops.toList i with
 |some o=>match dstOk N o.dst with
  |true=>guarded ops o X (fun X1=>pop T G K X1 o.op fun p=>k (setE o.dst p X1)) (fun X1=>k (setE o.dst (.d (.s undef)) X1))
  |false=>False
 |none=>False
def altStep(P:Program)(T:Tab)(G:Glob)(N:Nat)(ops:Array Oper)(KB:Nat→Bool)(ds:List Nat)(pan:PV→St→Prop)(i:Nat)(k:St→Prop)(X:St):Prop:=match nth ops.toList i with
 |some o=>match dstOk N o.dst with
  |true=>guarded ops o X (fun X1=>act P T G (some fun _=>true) X1 o.op (fun p X2 F=>match footOk KB ds i F with
    |true=>k (setE o.dst p X2)
    |false=>False) pan) (fun X1=>k (setE o.dst (.d (.s undef)) X1))
  |false=>False
 |none=>False
def aplan(P:Program)(T:Tab)(G:Glob)(N:Nat)(ops:Array Oper)(KB:Nat→Bool)(ds:List Nat)(pan:PV→St→Prop)(k:St→Prop):Bool→Plan→St→Prop
 |false,.done,X=>k X
 |true,.done,_=>True
 |_,.take i r,X=>takeStep T G N ops none i (aplan P T G N ops KB ds pan k false r) X
 |_,.load i r,X=>takeStep T G N ops (some KB) i (aplan P T G N ops KB ds pan k false r) X
 |_,.one i r,X=>altStep P T G N ops KB ds pan i (aplan P T G N ops KB ds pan k false r) X
 |_,.alt i p o,X=>altStep P T G N ops KB ds pan i (aplan P T G N ops KB ds pan k false p) X∧aplan P T G N ops KB ds pan k true o X

section
variable {P:Program}{T:Tab}{G:Glob}{D:List Deferred}{N B:Nat}{X X':St}{H H0 H00:Nat→Option Value}{lim lim0 lim00:Nat→Nat}{a:Act}{w w0 w00:World}{ops:Array Oper}{KB:Nat→Bool}{ds:List Nat}{Q:AExit→St→Prop}

theorem noneOf_ok:∀ {F:List Nat},noneOf KB F=true→∀id,id∈F→KB id=false
 |[],_,_,h=>by cases h
 |x::r,h,id,hid=>by
  simp only [noneOf] at h
  split at h
  ·cases h
  rename_i hx
  rcases List.mem_cons.1 hid with rfl|hid
  ·exact hx
  exact noneOf_ok h id hid

/-- What is kept through an operation that writes no row of KB. -/
theorem agr_step (hrows:RowsOk H lim w X.rows) (hlk:∀B',Lk B' H0 lim0 w0 H lim w) {F:List Nat}{H':Nat→Option Value}{lim':Nat→Nat}{w':World}(hnx:Nx D (fun i=>i∈F) G N H lim w X' a H' lim' w') (hF:noneOf KB F=true)
  (hS:Agr (some KB) H0 lim0 w0 w):Agr (some KB) H0 lim0 w0 w':=by
 refine ⟨fun b o hb ho=>?_,fun id v b hid hH hst hbk=>?_⟩
 ·have h1:=(hlk 0).fr.keep b hb
  have h2:=hnx.fr.keep b (Nat.lt_of_lt_of_le hb (hlk 0).fr.size)
  exact (h2.2 o (Nat.lt_of_lt_of_le ho h1.1)).trans (hS.1 b o hb ho)
 have e:=hS.2 id v b hid hH hst hbk
 have hH':H id=some v:=((hlk (id+1)).ptr id _ (Nat.lt_succ_self id) hst hH).trans hH
 have hb:Ow H id b:=(ow_of hH').2 hbk
 have hlt:=(lt_of_bl (X:=X) hrows hb).2
 refine ((hnx.fr.same b hlt fun ⟨j,hj,hjb⟩=>?_).1).trans e
 by_cases hij:j=id
 ·subst hij
  have:=noneOf_ok hF j hj
  rw [hid] at this
  cases this
 exact hrows.apart j id b hij hjb hb

theorem post_put{c:List PanicEntry}{d:Option Nat}{v:Value}(h:Post D G N B Q H lim w0 (.panic c) (a.put d v) w):Post D G N B Q H lim w0 (.panic c) a w:=by
 simp only [Post] at h ⊢
 obtain ⟨X',H',lim',v',p,h1,h2,h3,h4,h5,h6⟩:=h
 refine ⟨X',H',lim',v',p,h1,h2,h3,?_,h5,h6⟩
 cases d <;> exact h4

theorem take_sound(hT:TabOk P T)(hR:Rep D G N H lim X a w){K:Option (Nat→Bool)}{i:Nat}{k:St→Prop}(h:takeStep T G N ops K i k X):
  ∃o v X',ops[i]? = some o∧((Region.wanted o (yielded ops a.tmps)=true∧∀w1,Agr K H lim w w1→(execOp a.eval o).run P w1=.ok (.value v) w1)∨(Region.wanted o (yielded ops a.tmps)=false∧v=undef))∧Rep D G N H lim X' (a.put o.dst v) w∧k X':=by
 unfold takeStep at h
 split at h
 ·rename_i o ho
  rw [nth_ops] at ho
  split at h
  ·rename_i hd
   rcases guarded_sound hR h with ⟨hw,X1,hR1,_,h⟩|⟨hw,X1,hR1,_,h⟩
   ·obtain ⟨p,⟨v,h1,h2⟩,h3⟩:=pop_sound hT hR1 o _ h
    exact ⟨o,v,_,ho,.inl ⟨hw,h1⟩,rep_put hR1 hd h2,h3⟩
   exact ⟨o,undef,_,ho,.inr ⟨hw,rfl⟩,rep_put hR1 hd (V_s _),h⟩
  exact h.elim
 exact h.elim

theorem alt_sound (hT:TabOk P T) (hR:Rep D G N H lim X a w) (hlk:∀B',Lk B' H0 lim0 w0 H lim w) (h00:Lk B H00 lim00 w00 H0 lim0 w0) {i:Nat}{k:St→Prop}(h:altStep P T G N ops KB ds (fun p X=>Q (.pan p) X) i k X)
  {next:Act→World→Prop}(hk:∀X' H' lim' a' w',k X'→Rep D G N H' lim' X' a' w'→(∀B',Lk B' H0 lim0 w0 H' lim' w')→next a' w') :
  wpOp P ops (Post D G N B Q H00 lim00 w00) i (fun a' w'=>(i∉ds→Agr (some KB) H0 lim0 w0 w→Agr (some KB) H0 lim0 w0 w')∧next a' w') a w:=by
 unfold altStep at h
 split at h
 ·rename_i o ho
  rw [nth_ops] at ho
  unfold wpOp
  rw [ho]
  split at h
  ·rename_i hd
   rcases guarded_sound hR h with ⟨hw,X1,hR1,hrw,h⟩|⟨hw,X1,hR1,_,h⟩
   ·simp only [hw,if_true]
    refine .inl (act_sound hT hR1 h ?_ ?_)
    ·intro p X' F H' lim' w' v hk' hnx hv
     split at hk'
     ·rename_i hf
      refine ⟨fun hi hS=>?_,hk _ H' lim' _ w' hk' (rep_put hnx.rep hd hv) fun B'=>(hlk B').trans hnx.lk⟩
      unfold footOk at hf
      split at hf
      ·rename_i hc;exact absurd (by simpa using hc) hi
      exact agr_step hR1.rows hlk hnx hf hS
     exact hk'.elim
    intro p X' H' lim' w' v hp hR' lk' hv
    exact ⟨X',H',lim',v,p,rfl,hR'.rows,hv,hR'.defers,h00.trans ((hlk B).trans (lk' B)),hp⟩
   simp only [hw]
   exact ⟨fun _ hS=>hS,hk _ H lim _ w h (rep_put hR1 hd (V_s _)) hlk⟩
  exact h.elim
 exact h.elim

theorem plan_sound(hT:TabOk P T)(hs:Region.noSelect ops=true)(h00:Lk B H00 lim00 w00 H0 lim0 w0):∀(p:Plan) (fuel:Nat) (listed:Array Bool) (X:St) (H:Nat→Option Value) (lim:Nat→Nat) (a:Act) (w:World) (fresh:Bool),
  p.depth≤fuel→Rep D G N H lim X a w→(∀B',Lk B' H0 lim0 w0 H lim w)→(fresh=true→H=H0∧lim=lim0∧w=w0)→
  (planOk ops ds false listed fresh p=true→aplan P T G N ops KB ds (fun p X=>Q (.pan p) X) (fun X=>Q .normal X) false p X→wpAnyLast P .any ops (Post D G N B Q H00 lim00 w00) (Agr (some KB) H0 lim0 w0) ds fuel listed a w)∧
  (planOk ops ds true listed fresh p=true→aplan P T G N ops KB ds (fun p X=>Q (.pan p) X) (fun X=>Q .normal X) true p X→1≤fuel→∀i∈p.heads,wpOp P ops (Post D G N B Q H00 lim00 w00) i (fun a' w'=>(i∉ds→Agr (some KB) H0 lim0 w0 w→Agr (some KB) H0 lim0 w0 w')∧wpAnyLast P .any ops (Post D G N B Q H00 lim00 w00) (Agr (some KB) H0 lim0 w0) ds (fuel - 1) (listed.setIfInBounds i true) a' w') a w)
 |.done,fuel,listed,X,H,lim,a,w,fresh,hf,hR,hlk,hfr=>by
  refine ⟨fun ho h=>?_,fun _ _ _ i hi=>by cases hi⟩
  simp only [planOk,beq_iff_eq] at ho
  exact wpAnyLast_done ho ⟨X,H,lim,hR,h00.trans (hlk B),h⟩ fuel
 |.take i r,fuel,listed,X,H,lim,a,w,fresh,hf,hR,hlk,hfr=>by
  refine ⟨fun ho h=>?_,fun ho=>by simp [planOk] at ho⟩
  simp only [planOk,takeB,Bool.and_eq_true] at ho
  simp only [aplan] at h
  obtain ⟨o,v,X',h1,h2,h3,h4⟩:=take_sound hT hR h
  simp only [Plan.depth] at hf
  obtain ⟨n,rfl⟩:∃n,fuel=n+1:=⟨fuel - 1,by omega⟩
  have hrec:=(plan_sound hT hs h00 r n (listed.setIfInBounds i true) X' H lim _ w fresh (by omega) h3 hlk hfr).1 ho.2 h4
  exact wpAnyLast_any h1 (Region.noSelect_spec hs) (fun c a w q=>post_put q) n listed a w (Region.free_spec h1 ho.1.2) (by simpa using ho.1.1) (h2.imp (fun ⟨q1,q2⟩=>⟨q1,fun w1=>q2 w1 trivial⟩) id) hrec
 |.load i r,fuel,listed,X,H,lim,a,w,fresh,hf,hR,hlk,hfr=>by
  refine ⟨fun ho h=>?_,fun ho=>by simp [planOk] at ho⟩
  simp only [planOk,takeB,Bool.and_eq_true] at ho
  simp only [aplan] at h
  obtain ⟨⟨⟨⟨o1,o2,o3⟩,o4⟩,o5⟩,o6⟩:=ho
  obtain ⟨e1,e2,e3⟩:=hfr o1
  obtain ⟨o,v,X',h1,h2,h3,h4⟩:=take_sound hT hR h
  simp only [Plan.depth] at hf
  obtain ⟨n,rfl⟩:∃n,fuel=n+1:=⟨fuel - 1,by omega⟩
  have hrec:=(plan_sound hT hs h00 r n (listed.setIfInBounds i true) X' H lim _ w fresh (by omega) h3 hlk hfr).1 o6 h4
  exact wpAnyLast_take h1 hs o3 o2 o4 o5 (fun c a w q=>post_put q) (by rw [← e1,← e2,← e3];exact h2) (by rw [← e1,← e2,← e3];exact Agr.refl _ _ _ _) hrec
 |.one i r,fuel,listed,X,H,lim,a,w,fresh,hf,hR,hlk,hfr=>by
  refine ⟨fun ho h=>?_,fun ho=>by simp [planOk] at ho⟩
  simp only [planOk,Bool.and_eq_true,beq_iff_eq] at ho
  simp only [aplan] at h
  simp only [Plan.depth] at hf
  obtain ⟨n,rfl⟩:∃n,fuel=n+1:=⟨fuel - 1,by omega⟩
  refine wpAnyLast_all ho.1 (by simp) fun j hj=>?_
  rw [List.mem_singleton.1 hj]
  exact alt_sound hT hR hlk h00 h fun X' H' lim' a' w' q1 q2 q3=>(plan_sound hT hs h00 r n (listed.setIfInBounds i true) X' H' lim' a' w' false (by omega) q2 q3 (fun e=>by cases e)).1 ho.2 q1
 |.alt i p o,fuel,listed,X,H,lim,a,w,fresh,hf,hR,hlk,hfr=>by
  have hdep:p.depth+1≤fuel∧o.depth≤fuel:=by
   simp only [Plan.depth] at hf
   exact ⟨Nat.le_trans (Nat.le_max_left ..) hf,Nat.le_trans (Nat.le_max_right ..) hf⟩
  obtain ⟨n,rfl⟩:∃n,fuel=n+1:=⟨fuel - 1,by omega⟩
  have key:planOk ops ds false (listed.setIfInBounds i true) false p=true→planOk ops ds true listed false o=true→(altStep P T G N ops KB ds (fun p X=>Q (.pan p) X) i (aplan P T G N ops KB ds (fun p X=>Q (.pan p) X) (fun X=>Q .normal X) false p) X∧aplan P T G N ops KB ds (fun p X=>Q (.pan p) X) (fun X=>Q .normal X) true o X)→
    ∀j∈i::o.heads,wpOp P ops (Post D G N B Q H00 lim00 w00) j (fun a' w'=>(j∉ds→Agr (some KB) H0 lim0 w0 w→Agr (some KB) H0 lim0 w0 w')∧wpAnyLast P .any ops (Post D G N B Q H00 lim00 w00) (Agr (some KB) H0 lim0 w0) ds n (listed.setIfInBounds j true) a' w') a w:=by
   intro k1 k2 ⟨h1,h2⟩ j hj
   rcases List.mem_cons.1 hj with rfl|hj
   ·exact alt_sound hT hR hlk h00 h1 fun X' H' lim' a' w' q1 q2 q3=>(plan_sound hT hs h00 p n (listed.setIfInBounds j true) X' H' lim' a' w' false (by omega) q2 q3 (fun e=>by cases e)).1 k1 q1
   exact (plan_sound hT hs h00 o (n+1) listed X H lim a w false hdep.2 hR hlk (fun e=>by cases e)).2 k2 h2 (by omega) j hj
  refine ⟨fun ho h=>?_,fun ho h _=>?_⟩
  ·simp only [planOk,Bool.and_eq_true,beq_iff_eq] at ho
   simp only [aplan] at h
   exact wpAnyLast_all ho.1.1 (by simp) (key ho.1.2 ho.2 h)
  simp only [planOk,Bool.and_eq_true] at ho
  simp only [aplan] at h
  exact key ho.1 ho.2 h

def planAll(ops:Array Oper)(ds:List Nat)(p:Plan):Bool:=Region.noSelect ops&&planOk ops ds false (Array.replicate ops.size false) true p&&Nat.ble p.depth ops.size

theorem awp_draw (hT:TabOk P T) (hm:P.follows .mixedOrders=true) {id:Nat}(p:Plan) (ds:List Nat) (KB:Nat→Bool) (hp:planAll ops ds p=true)
  (h:∀(pan:PV→St→Prop) (K:St→Prop),(∀p X,Q (.pan p) X→pan p X)→(∀X,Q .normal X→K X)→aplan P T G N ops KB ds pan K false p X):AWp D P G N B (.region id ops true) Q X:=by
 intro H lim a w hR
 simp only [planAll,Bool.and_eq_true] at hp
 obtain ⟨⟨h1,h2⟩,h3⟩:=hp
 have hw:Rep D G N H lim X a { w with drawn:=w.drawn+1 }:=by
  have hF:Fr (fun _=>False) lim w lim { w with drawn:=w.drawn+1 }:=⟨rfl,rfl,rfl,Nat.le_refl _,fun _ _=>⟨Nat.le_refl _,fun _ _=>rfl⟩,fun _ _ _=>⟨rfl,rfl⟩⟩
  exact ⟨env_mono hF (fun _ _ q=>q) hR.env,⟨fun id r hr=>row_mono hF (fun _ _ q=>q) (fun _ _ q=>q) (hR.rows.row id r hr),hR.rows.apart,hR.rows.dom⟩,hR.glob.mono hF (fun _ q=>q.elim) (fun _ q=>.inl q),hR.defers,hR.size⟩
 have hl:Lk B H lim w H lim { w with drawn:=w.drawn+1 }:=⟨⟨rfl,rfl,rfl,Nat.le_refl _,fun _ _=>⟨Nat.le_refl _,fun _ _=>rfl⟩,fun _ _ _=>⟨rfl,rfl⟩⟩,fun _ _ _ _ _=>rfl,fun _ q=>.inl q⟩
 exact wp_region_last hm ((plan_sound hT h1 hl p ops.size _ X H lim a _ true (Nat.le_of_ble_eq_true h3) hw (fun _=>Lk.refl) (fun _=>⟨rfl,rfl,rfl⟩)).1 h2 (h _ _ (fun _ _ q=>q) fun _ q=>q))
end
end Go.Abs
end
section
namespace Go.Abs
open Go Go.Proofs
theorem digit_spec(G:Glob)(c:Int):Spec Tryz.prog G 133 [.d (.s (.int .u8 c))] [] (.ret (.d (.s (.bool (decide (c≥48)&&decide (c≤57)))))) []:=by
 refine spec_of_awp TT_ok (N:=9) Tryz.func133 rfl (by rfl) (Nat.le_refl _) rfl ?_;refine awp_seq (rgn fun E K J O=>?_);refine O _ ?_;clear O J K E;refine awp_seq (rgn fun E K J O=>?_);refine onB_intro (fun h=>?_) (fun h=>?_)
 ·refine O _ ?_;clear O J K E;refine awp_ret ?_
  exact ⟨_,rfl,by rw [h,Bool.true_and];rfl,rfl⟩
 refine O _ ?_;refine awp_ret ?_;exact ⟨_,rfl,by rw [h,Bool.false_and];rfl,rfl⟩
theorem letter_spec(G:Glob)(c:Int):Spec Tryz.prog G 132 [.d (.s (.int .u8 c))] [] (.ret (.d (.s (.bool (decide (c≥97)&&decide (c≤122)))))) []:=by
 refine spec_of_awp TT_ok (N:=9) Tryz.func132 rfl (by rfl) (Nat.le_refl _) rfl ?_;refine awp_seq (rgn fun E K J O=>?_);refine O _ ?_;clear O J K E;refine awp_seq (rgn fun E K J O=>?_);refine onB_intro (fun h=>?_) (fun h=>?_)
 ·refine O _ ?_;clear O J K E;refine awp_ret ?_
  exact ⟨_,rfl,by rw [h,Bool.true_and];rfl,rfl⟩
 refine O _ ?_;refine awp_ret ?_;exact ⟨_,rfl,by rw [h,Bool.false_and];rfl,rfl⟩
end Go.Abs
end
section
namespace Go.Abs
open Go Go.Proofs
attribute [local irreducible] aCall AWp Sub Spec
def rdr(ty:TypeId)(s:ByteArray)(i:Int)(w:ByteArray):Row:=.box ty [.d (.s (.string s)),.d (.s (.int .i64 i)),.d (.s (.string w))]
theorem mixed:Tryz.prog.follows .mixedOrders=true:=by kernel_rfl
theorem wrapId{x:Int}(h0:0≤x)(h1:x<9223372036854775808):IntKind.i64.wrap x=x:=by rw [IntKind.wrap_i64];omega
def p55_0:Plan:=(.take 0 (.take 1 (.take 2 (.load 3 (.take 4 (.take 5 (.take 6 (.load 7 (.take 8 (.take 9 (.take 10 (.take 11 (.one 12 .done)))))))))))))
def p55_1:Plan:=(.take 0 (.take 1 (.take 2 (.load 3 (.take 4 (.take 5 (.take 6 (.load 7 (.take 8 (.take 9 (.take 10 (.take 11 (.take 12 (.take 13 (.load 14 (.take 15 (.take 16 (.take 17 (.load 18 (.take 19 (.take 20 (.take 21 (.take 22 (.take 23 (.take 24 (.load 25 (.take 26 (.take 27 (.take 28 (.load 29 (.take 30 (.take 31 (.take 32 (.take 33 .done))))))))))))))))))))))))))))))))))
def p55_3:Plan:=(.take 0 (.take 1 (.take 2 (.load 3 (.take 4 (.take 5 (.take 6 (.load 7 (.take 8 (.take 9 .done))))))))))
def isL(c:Int):Bool:=decide (c≥97)&&decide (c≤122)
def isD(c:Int):Bool:=decide (c≥48)&&decide (c≤57)
/-- How far a byte's kind goes. -/
def scanF(p:Int→Bool)(r:ByteArray):Nat→Nat→Nat
 |0,n=>n
 |f+1,n=>match decide ((n:Int)<(r.size:Int)) with
  |true=>match p (byteAt r n) with
   |true=>scanF p r f (n+1)
   |false=>n
  |false=>n
def isO(c:Int):Bool:=(c==60)||(c==62)||(c==61)||(c==33)
def opLen(r:ByteArray):Nat:=match decide ((r.size:Int)>1)&&(byteAt r 1==61)&&isO (byteAt r 0) with
 |true=>2
 |false=>1
def wordLen(r:ByteArray):Nat:=match r.toList.isEmpty with
 |true=>0
 |false=>match isL (byteAt r 0) with
  |true=>scanF isL r r.size 0
  |false=>match isD (byteAt r 0) with
   |true=>scanF isD r r.size 0
   |false=>opLen r
def isSp(c:Int):Bool:=(c==32)||(c==10)
def spaceF(s:ByteArray):Nat→Nat→Nat
 |0,i=>i
 |f+1,i=>match decide ((i:Int)<(s.size:Int)) with
  |true=>match isSp (byteAt s i) with
   |true=>spaceF s f (i+1)
   |false=>i
  |false=>i
noncomputable def c20:Code:=seqB (seqB (seqB (seqB (seqB (bodyOf Tryz.f55)))))
theorem next_end(G:Glob)(ty:TypeId)(s w r:ByteArray)(j n:Nat)(_hsz:s.size<4611686018427387904)(_hr:r.size≤s.size)(hn:n≤r.size):AWp [] Tryz.prog G 122 1 c20 (RetPost TT Tryz.f55 (.ret (.tup [])) [rdr ty s j (r.extract 0 n)]) ⟨[(0,.box 0 0),(2,.d (.s (.string r))),(3,.d (.s (.int .i64 n)))],[rdr ty s j w]⟩:=by
 refine rgn fun E K J O=>?_;refine And.intro (by omega) (And.intro (by omega) ?_);refine O _ ?_;exact ⟨_,rfl,rfl,rfl⟩
theorem next_tail(G:Glob)(ty:TypeId)(s w:ByteArray)(j:Nat)(hsz:s.size<4611686018427387904)(hj:j≤s.size):AWp [] Tryz.prog G 122 1 (seqB (seqB (bodyOf Tryz.f55))) (RetPost TT Tryz.f55 (.ret (.tup [])) [rdr ty s j ((s.extract j s.size).extract 0 (wordLen (s.extract j s.size)))]) ⟨[(0,.box 0 0)],[rdr ty s j w]⟩:=by
 refine awp_seq (awp_draw TT_ok mixed p55_3 [] (fun _=>true) (by kernel_rfl) fun E K J O=>?_);refine And.intro (by omega) (And.intro (by omega) ?_);refine O _ (aN [0,2] rfl rfl ?_);clear O J K E;refine awp_seq (rgn fun E K J O=>?_);refine O _ (aN [0,2,3] rfl rfl ?_);clear O J K E;rw [show ((j:Int).toNat)=j from rfl]
 have hr:(s.extract j s.size).size≤s.size:=by rw [ByteArray.size_extract];omega
 generalize s.extract j s.size=r at hr;refine awp_seq (awp_block ?_);refine awp_seq (rgn fun E K J O=>?_);refine O _ (aN [0,2,3,81] rfl rfl ?_);clear O J K E;refine awp_cond rfl (onB_intro (fun h=>?_) (fun h=>?_))
 ·have hw:wordLen r=0:=by
   have:r.toList.isEmpty=true:=by simpa using h
   simp only [wordLen,this]
  rw [hw];refine awp_skip ?_;refine awp_norm [0,2,3] rfl rfl ?_;exact next_end G ty s w r j 0 hsz hr (Nat.zero_le _)
 have he:r.toList.isEmpty=false:=by simpa using h
 have hpos:0<r.size:=by
  rcases Nat.eq_zero_or_pos r.size with h0|h0
  ·have:r.toList=[]:=(toList_nil_iff_emptyBytes r).2 (ByteArray.size_eq_zero_iff.1 h0)
   rw [this] at he;cases he
  exact h0
 simp only [wordLen,he];refine awp_seq (rgn fun E K J O=>?_);refine And.intro (by omega) (And.intro (by omega) ?_);refine aS [] (letter_spec G _) ?_;refine O _ (aN [0,2,3,84] rfl rfl ?_);clear O J K E;refine awp_cond rfl (onB_intro (fun h1=>?_) (fun h1=>?_))
 ·rw [show isL (byteAt r 0)=true from h1]
  generalize he:scanF isL r r.size 0=e;refine awp_norm [0,2,3] rfl rfl ?_;refine awp_block (awp_loop (fun n Y=>∃m:Nat,n=r.size - m∧m≤r.size∧scanF isL r n m=e∧Y=⟨[(0,.box 0 0),(2,.d (.s (.string r))),(3,.d (.s (.int .i64 m)))],[rdr ty s j w]⟩) r.size ⟨0,rfl,Nat.zero_le _,he,rfl⟩ ?_);rintro n Y ⟨m,hn,hm,hms,rfl⟩;refine awp_seq (awp_seq (rgn fun E K J O=>?_));refine onB_intro (fun h2=>?_) (fun h2=>?_)
  ·have hlt:=of_decide_eq_true h2
   obtain ⟨q,rfl⟩:∃q,n=q+1:=⟨n - 1,by omega⟩;simp only [scanF,h2] at hms;refine And.intro (by omega) (And.intro hlt ?_);refine aS [] (letter_spec G _) ?_;refine O _ (aN [0,2,3,97] rfl rfl ?_);clear O J K E;refine awp_cond rfl (onB_intro (fun h3=>?_) (fun h3=>?_))
   ·refine awp_skip ?_
    refine awp_block (rgn fun E K J O=>?_);refine O _ ?_;clear O J K E;refine ⟨q,Nat.lt_succ_self q,_,sub_norm (slots:=[0,2,3]) rfl rfl,m+1,by omega,by omega,?_,?_⟩
    ·rw [show isL (byteAt r m)=true from h3] at hms
     exact hms
    rw [show IntKind.i64.wrap ((m:Int)+1)=((m+1:Nat):Int) from by rw [wrapId (by omega) (by omega)];omega]
    rfl
   refine awp_exit ?_;rw [show isL (byteAt r m)=false from h3] at hms;have hme:m=e:=hms;subst hme;refine awp_norm [0,2,3] rfl rfl ?_;exact next_end G ty s w r j m hsz hr hm
  refine O _ (aN [0,2,3,97] rfl rfl ?_);clear O J K E;refine awp_cond rfl ?_;refine awp_exit ?_
  have hme:m=e:=by
   cases n with
   |zero=>exact hms
   |succ q=>simp only [scanF,h2] at hms;exact hms
  subst hme;refine awp_norm [0,2,3] rfl rfl ?_;exact next_end G ty s w r j m hsz hr hm
 rw [show isL (byteAt r 0)=false from h1];refine awp_seq (rgn fun E K J O=>?_);refine And.intro (by omega) (And.intro (by omega) ?_);refine aS [] (digit_spec G _) ?_;refine O _ (aN [0,2,3,100] rfl rfl ?_);clear O J K E;refine awp_cond rfl (onB_intro (fun h1=>?_) (fun h1=>?_))
 ·rw [show isD (byteAt r 0)=true from h1]
  generalize he:scanF isD r r.size 0=e;refine awp_norm [0,2,3] rfl rfl ?_;refine awp_block (awp_loop (fun n Y=>∃m:Nat,n=r.size - m∧m≤r.size∧scanF isD r n m=e∧Y=⟨[(0,.box 0 0),(2,.d (.s (.string r))),(3,.d (.s (.int .i64 m)))],[rdr ty s j w]⟩) r.size ⟨0,rfl,Nat.zero_le _,he,rfl⟩ ?_);rintro n Y ⟨m,hn,hm,hms,rfl⟩;refine awp_seq (awp_seq (rgn fun E K J O=>?_));refine onB_intro (fun h2=>?_) (fun h2=>?_)
  ·have hlt:=of_decide_eq_true h2
   obtain ⟨q,rfl⟩:∃q,n=q+1:=⟨n - 1,by omega⟩;simp only [scanF,h2] at hms;refine And.intro (by omega) (And.intro hlt ?_);refine aS [] (digit_spec G _) ?_;refine O _ (aN [0,2,3,113] rfl rfl ?_);clear O J K E;refine awp_cond rfl (onB_intro (fun h3=>?_) (fun h3=>?_))
   ·refine awp_skip ?_
    refine awp_block (rgn fun E K J O=>?_);refine O _ ?_;clear O J K E;refine ⟨q,Nat.lt_succ_self q,_,sub_norm (slots:=[0,2,3]) rfl rfl,m+1,by omega,by omega,?_,?_⟩
    ·rw [show isD (byteAt r m)=true from h3] at hms
     exact hms
    rw [show IntKind.i64.wrap ((m:Int)+1)=((m+1:Nat):Int) from by rw [wrapId (by omega) (by omega)];omega]
    rfl
   refine awp_exit ?_;rw [show isD (byteAt r m)=false from h3] at hms;have hme:m=e:=hms;subst hme;refine awp_norm [0,2,3] rfl rfl ?_;exact next_end G ty s w r j m hsz hr hm
  refine O _ (aN [0,2,3,113] rfl rfl ?_);clear O J K E;refine awp_cond rfl ?_;refine awp_exit ?_
  have hme:m=e:=by
   cases n with
   |zero=>exact hms
   |succ q=>simp only [scanF,h2] at hms;exact hms
  subst hme;refine awp_norm [0,2,3] rfl rfl ?_;exact next_end G ty s w r j m hsz hr hm
 rw [show isD (byteAt r 0)=false from h1];refine awp_seq (rgn fun E K J O=>?_);refine O _ (aN [0,2,3] rfl rfl ?_);clear O J K E;refine awp_seq (rgn fun E K J O=>?_);refine onB_intro (fun h2=>?_) (fun h2=>?_)
 ·have hlt:=of_decide_eq_true h2
  refine And.intro (by omega) (And.intro (by omega) ?_);refine O _ (aN [0,2,3,73] rfl rfl ?_);clear O J K E;refine awp_cond rfl (onB_intro (fun h3=>?_) (fun h3=>?_))
  ·refine awp_seq (rgn fun E K J O=>?_)
   refine And.intro (by omega) (And.intro (by omega) ?_);refine O _ (aN [0,2,3,75] rfl rfl ?_);clear O J K E;refine awp_block (awp_cut (fun Z=>Z=⟨[(0,.box 0 0),(2,.d (.s (.string r))),(3,.d (.s (.int .i64 1))),(76,.d (.s (.bool (isO (byteAt r 0)))))],[rdr ty s j w]⟩) ?_ ?_)
   ·refine awp_seq (rgn fun E K J O=>?_)
    refine O _ (aN [0,2,3,75,76] rfl rfl ?_);clear O J K E;refine awp_cond rfl (onB_intro (fun h4=>?_) (fun h4=>?_))
    ·refine awp_skip ?_
     refine ⟨_,sub_norm (slots:=[0,2,3,76]) rfl rfl,?_⟩;rw [h4,show isO (byteAt r 0)=true from by simp only [isO,h4,Bool.true_or]]
     rfl
    refine awp_seq (rgn fun E K J O=>?_);refine O _ (aN [0,2,3,75,76] rfl rfl ?_);clear O J K E;refine awp_cond rfl (onB_intro (fun h5=>?_) (fun h5=>?_))
    ·refine awp_skip ?_
     refine ⟨_,sub_norm (slots:=[0,2,3,76]) rfl rfl,?_⟩;rw [h5,show isO (byteAt r 0)=true from by simp only [isO,h5,Bool.true_or,Bool.or_true]]
     rfl
    refine awp_seq (rgn fun E K J O=>?_);refine O _ (aN [0,2,3,75,76] rfl rfl ?_);clear O J K E;refine awp_cond rfl (onB_intro (fun h6=>?_) (fun h6=>?_))
    ·refine awp_skip ?_
     refine ⟨_,sub_norm (slots:=[0,2,3,76]) rfl rfl,?_⟩;rw [h6,show isO (byteAt r 0)=true from by simp only [isO,h6,Bool.true_or,Bool.or_true]]
     rfl
    refine rgn fun E K J O=>?_;refine O _ ?_;clear O J K E;refine ⟨_,sub_norm (slots:=[0,2,3,76]) rfl rfl,?_⟩;rw [show isO (byteAt r 0)=(byteAt r 0==33) from by simp only [isO,h4,h5,h6,Bool.false_or]]
    rfl
   rintro Z rfl;refine awp_cond rfl (onB_intro (fun h4=>?_) (fun h4=>?_))
   ·refine rgn fun E K J O=>?_;refine O _ (aN [0,2,3] rfl rfl ?_);clear O J K E
    rw [show opLen r=2 from by unfold opLen;rw [h2,h3,h4];rfl];exact next_end G ty s w r j 2 hsz hr (by omega)
   refine awp_skip ?_;refine awp_norm [0,2,3] rfl rfl ?_;rw [show opLen r=1 from by unfold opLen;rw [h2,h3,h4];rfl];exact next_end G ty s w r j 1 hsz hr (by omega)
  refine awp_skip ?_;refine awp_norm [0,2,3] rfl rfl ?_;rw [show opLen r=1 from by unfold opLen;rw [h2,h3];rfl];exact next_end G ty s w r j 1 hsz hr (by omega)
 refine O _ (aN [0,2,3,73] rfl rfl ?_);clear O J K E;refine awp_cond rfl ?_;refine awp_skip ?_;refine awp_norm [0,2,3] rfl rfl ?_;rw [show opLen r=1 from by unfold opLen;rw [h2];rfl];exact next_end G ty s w r j 1 hsz hr (by omega)
def nextF(ty:TypeId)(s:ByteArray)(i:Nat):Row:=let e:=spaceF s (s.size - i) i
 rdr ty s e ((s.extract e s.size).extract 0 (wordLen (s.extract e s.size)))
theorem next_spec(G:Glob)(ty:TypeId)(s w:ByteArray)(i:Nat)(hsz:s.size<4611686018427387904)(hi:i+w.size≤s.size):Spec Tryz.prog G 55 [.box 0 0] [rdr ty s i w] (.ret (.tup [])) [nextF ty s (i+w.size)]:=by
 obtain ⟨e,he⟩:∃e,spaceF s (s.size - (i+w.size)) (i+w.size)=e:=⟨_,rfl⟩;rw [show nextF ty s (i+w.size)=rdr ty s e ((s.extract e s.size).extract 0 (wordLen (s.extract e s.size))) from by unfold nextF;rw [he]];refine spec_of_awp TT_ok (N:=122) Tryz.func55 rfl (by rfl) (Nat.le_refl _) rfl ?_;refine awp_seq (awp_draw TT_ok mixed p55_0 [12] (fun _=>true) (by kernel_rfl) fun E K J O=>?_);refine O _ (aN [0] rfl rfl ?_);clear O J K E;rw [show IntKind.i64.wrap ((i:Int)+(w.size:Int))=((i+w.size:Nat):Int) from by rw [wrapId (by omega) (by omega)];omega];refine awp_seq (awp_block (awp_loop (fun n Y=>∃j:Nat,n=s.size - j∧j≤s.size∧spaceF s n j=e∧Y=⟨[(0,.box 0 0)],[rdr ty s j w]⟩) _ ⟨i+w.size,rfl,hi,he,rfl⟩ ?_));rintro n Y ⟨j,hn,hj,hjs,rfl⟩;refine awp_seq (awp_seq (awp_draw TT_ok mixed p55_1 [] (fun _=>true) (by kernel_rfl) fun E K J O=>?_));refine onB_intro (fun h=>?_) (fun h=>?_)
 ·have hlt:=of_decide_eq_true h
  obtain ⟨m,rfl⟩:∃m,n=m+1:=⟨n - 1,by omega⟩;simp only [spaceF,h] at hjs;refine And.intro (by omega) (And.intro hlt ?_);refine onB_intro (fun h1=>?_) (fun h1=>?_)
  ·refine O _ (aN [0,49] rfl rfl ?_);clear O J K E;refine awp_cond rfl ?_;refine awp_skip ?_
   refine awp_block (rgn fun E K J O=>?_);refine O _ ?_;clear O J K E;refine ⟨m,Nat.lt_succ_self m,_,sub_norm (slots:=[0]) rfl rfl,j+1,by omega,by omega,?_,?_⟩
   ·rw [show isSp (byteAt s j)=true from by simp only [isSp,h1,Bool.true_or]] at hjs
    exact hjs
   rw [show IntKind.i64.wrap ((j:Int)+1)=((j+1:Nat):Int) from by rw [wrapId (by omega) (by omega)];omega]
   rfl
  refine And.intro (by omega) (And.intro hlt ?_);refine O _ (aN [0,49] rfl rfl ?_);clear O J K E;refine awp_cond rfl ?_;refine onB_intro (fun h2=>?_) (fun h2=>?_)
  ·refine awp_skip ?_
   refine awp_block (rgn fun E K J O=>?_);refine O _ ?_;clear O J K E;refine ⟨m,Nat.lt_succ_self m,_,sub_norm (slots:=[0]) rfl rfl,j+1,by omega,by omega,?_,?_⟩
   ·rw [show isSp (byteAt s j)=true from by simp only [isSp,h2,Bool.or_true]] at hjs
    exact hjs
   rw [show IntKind.i64.wrap ((j:Int)+1)=((j+1:Nat):Int) from by rw [wrapId (by omega) (by omega)];omega]
   rfl
  refine awp_exit ?_
  have hje:j=e:=by
   rw [show isSp (byteAt s j)=false from by simp only [isSp,h1,h2,Bool.or_self]] at hjs;exact hjs
  subst hje;refine awp_norm [0] rfl rfl ?_;exact next_tail G ty s w j hsz hj
 refine O _ (aN [0,49] rfl rfl ?_);clear O J K E;refine awp_cond rfl ?_;refine awp_exit ?_
 have hje:j=e:=by
  cases n with
  |zero=>exact hjs
  |succ m=>simp only [spaceF,h] at hjs;exact hjs
 subst hje;refine awp_norm [0] rfl rfl ?_;exact next_tail G ty s w j hsz hj
end Go.Abs
end
section
namespace Go.Abs
open Go Go.Proofs
attribute [local irreducible] aCall AWp Sub Spec
def flt(i:Int)(t:TypeId)(u:Value):Row:=.box 261 [.d (.s (.int .i64 i)),.d (.s (.iface t u))]
theorem fail_spec(G:Glob)(ty:TypeId)(s w:ByteArray)(i:Int)(t:TypeId)(u:Value):
  Spec Tryz.prog G 195 [.box 0 0,.d (.s (.iface t u))] [rdr ty s i w] (.pan (.ifc 128 (.box 1 0))) [rdr ty s i w,flt i t u]:=by
 refine spec_of_awp TT_ok (N:=12) Tryz.func195 rfl (by rfl) (Nat.le_succ _) rfl ?_;refine rgn fun E K J O=>?_;refine J _ _ ?_;exact ⟨rfl,rfl⟩
/-- take: the word that must stand here. -/
theorem take_ok(G:Glob)(ty:TypeId)(s w:ByteArray)(i:Nat)(hsz:s.size<4611686018427387904)(hi:i+w.size≤s.size):Spec Tryz.prog G 136 [.box 0 0,.d (.s (.string w))] [rdr ty s i w] (.ret (.tup [])) [nextF ty s (i+w.size)]:=by
 refine spec_of_awp TT_ok (N:=15) Tryz.func136 rfl (by rfl) (Nat.le_refl _) rfl ?_;refine awp_seq (awp_seq (rgn fun E K J O=>?_));refine O _ (aN [0,1,9] rfl rfl ?_);clear O J K E;refine awp_cond rfl (onB_intro (fun h=>?_) (fun h=>?_))
 ·simp at h
 refine awp_skip ?_;refine rgn fun E K J O=>?_;refine aS [0] (next_spec G ty s w i hsz hi) ?_;refine O _ ?_;exact ⟨_,rfl,rfl,rfl⟩
/-- The powers of ten. -/
def pow10V:List Int:=[1,10,100,1000,10000,100000,1000000,10000000,100000000,1000000000,10000000000,100000000000,1000000000000,10000000000000,100000000000000,1000000000000000,10000000000000000,100000000000000000,1000000000000000000,10000000000000000000]
/-- The package-level variables that are read: the errors of api (0 to 7), errors.errorType (8), two of strconv (11, 12), the powers of ten (9); how many blocks were there at first (1000); what the errors of api point to (100 to 107). -/
def GO(t:Nat→TypeId)(u:Nat→Value):Glob:=fun g=>match Nat.ble g 8||(Nat.beq g 11||Nat.beq g 12) with
 |true=>some (.iface (t g) (u g))
 |false=>match Nat.beq g 9 with
  |true=>some (.tuple (pow10V.map fun z=>Value.int .u64 z).toArray)
  |false=>match Nat.beq g 1000 with
   |true=>some (u 1000)
   |false=>match Nat.ble 100 g&&Nat.ble g 107 with
    |true=>some (.agg #[u (g - 100)])
    |false=>none
/-- The same, of which five of the variables may be unknown: errors 4 to 7 of api and errors.errorType (a card may list fewer variables). -/
def gx(u:Nat→Value)(o:Option Value):Option Value:=match u 2000 with
 |.bool true=>none
 |_=>o
def GV(t:Nat→TypeId)(u:Nat→Value):Glob:=fun g=>match (Nat.ble 4 g&&Nat.ble g 8)||(Nat.ble 104 g&&Nat.ble g 107) with
 |true=>gx u (GO t u g)
 |false=>GO t u g
theorem gv_on{t:Nat→TypeId}{u:Nat→Value}(h:u 2000=.bool false):GV t u=GO t u:=by
 funext g
 unfold GV gx
 rw [h]
 split <;> rfl
theorem gv_go{t:Nat→TypeId}{u:Nat→Value}{g:Nat}{v:Value}(h:GV t u g=some v):GO t u g=some v:=by
 unfold GV gx at h
 split at h
 ·split at h
  ·cases h
  exact h
 exact h
theorem take_bad(t:Nat→TypeId)(u:Nat→Value)(ty:TypeId)(s w x:ByteArray)(i:Int)(hw:(w.toList==x.toList)=false):
  Spec Tryz.prog (GV t u) 136 [.box 0 0,.d (.s (.string x))] [rdr ty s i w] (.pan (.ifc 128 (.box 1 0))) [rdr ty s i w,flt i (t 3) (u 3)]:=by
 refine spec_of_awp TT_ok (N:=15) Tryz.func136 rfl (by rfl) (Nat.le_succ _) rfl ?_;refine awp_seq (awp_seq (rgn fun E K J O=>?_));refine O _ (aN [0,1,9] rfl rfl ?_);clear O J K E;refine awp_cond rfl (onB_intro (fun h=>?_) (fun h=>?_))
 ·refine rgn fun E K J O=>?_;show aCall _ _ _ _ _ _ _
  refine aP [0] rfl rfl rfl (fail_spec (GV t u) ty s w i (t 3) (u 3)) rfl rfl rfl rfl ?_;refine J _ _ ?_;exact ⟨rfl,rfl⟩
 rw [hw] at h;cases h
theorem has_yes(G:Glob)(ty:TypeId)(s w:ByteArray)(i:Nat)(hsz:s.size<4611686018427387904)(hi:i+w.size≤s.size):Spec Tryz.prog G 134 [.box 0 0,.d (.s (.string w))] [rdr ty s i w] (.ret (.d (.s (.bool true)))) [nextF ty s (i+w.size)]:=by
 refine spec_of_awp TT_ok (N:=13) Tryz.func134 rfl (by rfl) (Nat.le_refl _) rfl ?_;refine awp_seq (rgn fun E K J O=>?_);refine O _ ?_;clear O J K E;refine awp_seq (awp_seq (rgn fun E K J O=>?_));refine O _ (aN [0,1,4,10] rfl rfl ?_);clear O J K E;refine awp_cond rfl (onB_intro (fun h=>?_) (fun h=>?_))
 ·simp at h
 refine awp_skip ?_;refine awp_seq (rgn fun E K J O=>?_);refine aS [0] (next_spec G ty s w i hsz hi) ?_;refine O _ ?_;clear O J K E;refine awp_seq (rgn fun E K J O=>?_);refine O _ ?_;clear O J K E;refine awp_ret ?_;exact ⟨_,rfl,rfl,rfl⟩
theorem has_no(G:Glob)(ty:TypeId)(s w x:ByteArray)(i:Int)(hw:(w.toList==x.toList)=false):Spec Tryz.prog G 134 [.box 0 0,.d (.s (.string x))] [rdr ty s i w] (.ret (.d (.s (.bool false)))) [rdr ty s i w]:=by
 refine spec_of_awp TT_ok (N:=13) Tryz.func134 rfl (by rfl) (Nat.le_refl _) rfl ?_;refine awp_seq (rgn fun E K J O=>?_);refine O _ ?_;clear O J K E;refine awp_seq (awp_seq (rgn fun E K J O=>?_));refine O _ (aN [0,1,4,10] rfl rfl ?_);clear O J K E;refine awp_cond rfl (onB_intro (fun h=>?_) (fun h=>?_))
 ·refine awp_seq (rgn fun E K J O=>?_)
  refine O _ ?_;clear O J K E;refine awp_ret ?_;exact ⟨_,rfl,rfl,rfl⟩
 rw [hw] at h;cases h
end Go.Abs
end
section
namespace Go.Abs
open Go Go.Proofs
attribute [local irreducible] aCall AWp Sub Spec
def isRelF(s:ByteArray):Bool:=(s.toList==(⟨#[60]⟩:ByteArray).toList)||(s.toList==(⟨#[60,61]⟩:ByteArray).toList)||(s.toList==(⟨#[61,61]⟩:ByteArray).toList)||(s.toList==(⟨#[33,61]⟩:ByteArray).toList)||(s.toList==(⟨#[62]⟩:ByteArray).toList)||(s.toList==(⟨#[62,61]⟩:ByteArray).toList)
theorem isRel_spec(G:Glob)(s:ByteArray):Spec Tryz.prog G 260 [.d (.s (.string s))] [] (.ret (.d (.s (.bool (isRelF s))))) []:=by
 refine spec_of_awp TT_ok (N:=11) Tryz.func260 rfl (by rfl) (Nat.le_refl _) rfl ?_;refine awp_seq (rgn fun E K J O=>?_);refine O _ ?_;clear O J K E;refine awp_seq (awp_seq (rgn fun E K J O=>?_));refine O _ (aN [2,3] rfl rfl ?_);clear O J K E;refine awp_block (awp_cut (fun Z=>Z=⟨[(2,.d (.s (.bool false))),(4,.d (.s (.bool (isRelF s))))],[]⟩) ?_ ?_)
 ·refine awp_seq (rgn fun E K J O=>?_)
  refine O _ (aN [2,3,4] rfl rfl ?_);clear O J K E;refine awp_cond rfl (onB_intro (fun h0=>?_) (fun h0=>?_))
  ·refine awp_skip ?_
   refine ⟨_,sub_norm (slots:=[2,4]) rfl rfl,?_⟩;rw [h0,show isRelF s=true from by simp only [isRelF,h0,Bool.true_or]]
   rfl
  refine awp_seq (rgn fun E K J O=>?_);refine O _ (aN [2,3,4] rfl rfl ?_);clear O J K E;refine awp_cond rfl (onB_intro (fun h1=>?_) (fun h1=>?_))
  ·refine awp_skip ?_
   refine ⟨_,sub_norm (slots:=[2,4]) rfl rfl,?_⟩;rw [h1,show isRelF s=true from by simp only [isRelF,h1,Bool.true_or,Bool.or_true]]
   rfl
  refine awp_seq (rgn fun E K J O=>?_);refine O _ (aN [2,3,4] rfl rfl ?_);clear O J K E;refine awp_cond rfl (onB_intro (fun h2=>?_) (fun h2=>?_))
  ·refine awp_skip ?_
   refine ⟨_,sub_norm (slots:=[2,4]) rfl rfl,?_⟩;rw [h2,show isRelF s=true from by simp only [isRelF,h2,Bool.true_or,Bool.or_true]]
   rfl
  refine awp_seq (rgn fun E K J O=>?_);refine O _ (aN [2,3,4] rfl rfl ?_);clear O J K E;refine awp_cond rfl (onB_intro (fun h3=>?_) (fun h3=>?_))
  ·refine awp_skip ?_
   refine ⟨_,sub_norm (slots:=[2,4]) rfl rfl,?_⟩;rw [h3,show isRelF s=true from by simp only [isRelF,h3,Bool.true_or,Bool.or_true]]
   rfl
  refine awp_seq (rgn fun E K J O=>?_);refine O _ (aN [2,3,4] rfl rfl ?_);clear O J K E;refine awp_cond rfl (onB_intro (fun h4=>?_) (fun h4=>?_))
  ·refine awp_skip ?_
   refine ⟨_,sub_norm (slots:=[2,4]) rfl rfl,?_⟩;rw [h4,show isRelF s=true from by simp only [isRelF,h4,Bool.true_or,Bool.or_true]]
   rfl
  refine rgn fun E K J O=>?_;refine O _ ?_;clear O J K E;refine ⟨_,sub_norm (slots:=[2,4]) rfl rfl,?_⟩;rw [show isRelF s=(s.toList==(⟨#[62,61]⟩:ByteArray).toList) from by simp only [isRelF,h0,h1,h2,h3,h4,Bool.false_or]]
  rfl
 rintro Z rfl;refine awp_cond rfl (onB_intro (fun h=>?_) (fun h=>?_))
 ·refine awp_seq (rgn fun E K J O=>?_)
  refine O _ ?_;clear O J K E;refine awp_ret ?_;exact ⟨_,rfl,by rw [h];rfl,rfl⟩
 refine awp_skip ?_;refine awp_seq (rgn fun E K J O=>?_);refine O _ ?_;clear O J K E;refine awp_ret ?_;exact ⟨_,rfl,by rw [h];rfl,rfl⟩
end Go.Abs
end
section
namespace Go.Abs
open Go

mutual
inductive DW:Data→Data→Prop
 |refl (d:Data):DW d d
 |nil (k:Nat):DW (.s (.slice none 0 0)) (.sl k [])
 |agg {cs ds:List Data}:DWs cs ds→DW (.agg cs) (.agg ds)
inductive DWs:List Data→List Data→Prop
 |nil:DWs [] []
 |cons {c d:Data}{cs ds:List Data}:DW c d→DWs cs ds→DWs (c::cs) (d::ds)
end
inductive PW:PV→PV→Prop
 |refl (p:PV):PW p p
 |d {x y:Data}:DW x y→PW (.d x) (.d y)
inductive PWs:List PV→List PV→Prop
 |nil:PWs [] []
 |cons {c d:PV}{cs ds:List PV}:PW c d→PWs cs ds→PWs (c::cs) (d::ds)
theorem PWs.refl:∀l:List PV,PWs l l
 |[]=>.nil
 |_::r=>.cons (.refl _) (PWs.refl r)
theorem DWs.refl:∀l:List Data,DWs l l
 |[]=>.nil
 |_::r=>.cons (.refl _) (DWs.refl r)

section
variable {H:Nat→Option Value}{lim:Nat→Nat}{w:World}
mutual
theorem DW.sound:∀ {x y:Data}{v:Value},DW x y→VD lim w x v→VD lim w y v
 |_,_,_,.refl _,hv=>hv
 |_,_,v,.nil k,hv=>by
  simp only [VD] at hv
  subst hv
  simp only [VD]
  exact ⟨none,0,0,rfl,rfl,Nat.le_refl _,by simp [maxLen],fun q=>absurd rfl q⟩
 |_,_,v,.agg h,hv=>by
  simp only [VD] at hv ⊢
  obtain ⟨vs,rfl,hc⟩:=hv
  exact ⟨vs,rfl,DWs.sound h hc⟩
theorem DWs.sound:∀ {x y:List Data}{v:List Value},DWs x y→VDs lim w x v→VDs lim w y v
 |_,_,_,.nil,hv=>hv
 |_,_,v,.cons h k,hv=>by
  simp only [VDs] at hv ⊢
  obtain ⟨u,us,rfl,h1,h2⟩:=hv
  exact ⟨u,us,rfl,DW.sound h h1,DWs.sound k h2⟩
end
theorem PW.sound{p q:PV}{v:Value}(h:PW p q)(hv:V H lim w p v):V H lim w q v:=by
 cases h with
 |refl=>exact hv
 |d h=>simp only [V] at hv ⊢;exact h.sound hv
theorem PWs.sound:∀ {x y:List PV}{v:List Value},PWs x y→Vs H lim w x v→Vs H lim w y v
 |_,_,_,.nil,hv=>hv
 |_,_,v,.cons h k,hv=>by
  simp only [Vs] at hv ⊢
  obtain ⟨u,us,rfl,h1,h2⟩:=hv
  exact ⟨u,us,rfl,h.sound h1,PWs.sound k h2⟩
end

/-- Where a body ends: its results and its panic, told over the rows of L alone. -/
def RetP(T:Tab)(fn:Func)(B:Nat)(out:Out)(rows':List Row):AExit→St→Prop:=fun e X=>match e with
 |.normal=>∃ps L ps' ps'',aResults T X fn.results.toList=some ps∧L.take B=List.range B∧nodupB L=true∧PV.subs (sIn L X.rows) ps=some ps'∧pickRows (sIn L X.rows) X.rows L=some rows'∧PWs ps' ps''∧out=.ret (resOf ps'')
 |.ret=>∃ps L ps' ps'',aResults T X fn.results.toList=some ps∧L.take B=List.range B∧nodupB L=true∧PV.subs (sIn L X.rows) ps=some ps'∧pickRows (sIn L X.rows) X.rows L=some rows'∧PWs ps' ps''∧out=.ret (resOf ps'')
 |.pan p=>∃L p',L.take B=List.range B∧nodupB L=true∧PV.sub (sIn L X.rows) p=some p'∧pickRows (sIn L X.rows) X.rows L=some rows'∧out=.pan p'
 |.exit _=>False

section
variable {P:Program}{T:Tab}{G:Glob}{D:List Deferred}{N B:Nat}{X X':St}{H H':Nat→Option Value}{lim lim':Nat→Nat}{a:Act}{w w':World}{L:List Nat}

theorem pick_lk(h0:L.take B=List.range B):Lk B H lim w (HL L H) lim w:=by
 refine Sub.lk (fun id hid=>?_) (fun b ⟨j,hb⟩=>?_)
 ·have e:(L.take B)[id]? = some id:=by rw [h0];simp [hid]
  rw [List.getElem?_take,if_pos hid] at e
  simp [HL,e]
 obtain ⟨id,_,h⟩:=bl_HL hb
 exact ⟨id,h⟩

/-- What a function's results are, as values. -/
theorem results_run(hT:TabOk P T)(hR:Rep D G N H lim X a w){fn:Func}{ps:List PV}(h:aResults T X fn.results.toList=some ps):
  ∃us:List Value,(results fn a.tmps).run P w=.ok (if h:us.length=1 then us[0] else .tuple us.toArray) w∧Vs H lim w ps us:=by
 obtain ⟨us,r1,r2⟩:=aResults_sound (P:=P) hT hR _ _ h
 refine ⟨us,?_,r2⟩
 unfold results
 have:∀(g:ResultVar→Sem Value),(fn.results.mapM g).run P w=((fn.results.toList.mapM g).run P w).andThen fun l w=>.ok l.toArray w:=by
  intro g
  rw [← Array.toArray_toList (xs:=fn.results),List.mapM_toArray]
  simp only [List.toList_toArray]
  show Sem.run P (List.mapM g fn.results.toList >>= fun x=>pure x.toArray) w=_
  rw [Sem.run_bind]
  rfl
 rw [Sem.run_bind,this]
 erw [r1]
 simp [Result.andThen]
theorem resOf_V{ps:List PV}{us:List Value}(h:Vs H lim w ps us):V H lim w (resOf ps) (if h:us.length=1 then us[0] else .tuple us.toArray):=by
 have hl:=Vs_length h
 cases ps with
 |nil=>
  simp only [Vs] at h
  subst h
  simp only [resOf,V]
  exact ⟨[],rfl,by simp only [Vs]⟩
 |cons p ps=>
  cases ps with
  |nil=>
   simp only [Vs] at h
   obtain ⟨u,us',rfl,h1,rfl⟩:=h
   simpa [resOf] using h1
  |cons q ps=>
   have hne:¬us.length=1:=by simp at hl;omega
   rw [dif_neg hne]
   simp only [resOf,V]
   exact ⟨us,rfl,h⟩

/-- A CONTRACT from a body, its own boxes forgotten. -/
theorem spec_of_awp2 (hT:TabOk P T) {f:FuncId}{fn:Func}{c:Code}{args:List PV}{rows rows':List Row}{out:Out}(hf:P.funcs[f]? = some fn) (hb:fn.body=some c) (hname:(fn.name== "runtime.NumGoroutine")=false)
  (hlen:rows.length≤rows'.length) (hN:N=args.length+(fn.ntmps - args.length))
  (h:AWp [] P G N rows.length c (RetP T fn rows.length out rows') ⟨argEnv 0 args,rows⟩):Spec P G f args rows out rows':=by
 refine ⟨fun av0 w=>?_,hlen,fun H lim w vs hrows hglob hvs=>?_⟩
 ·have hne:¬fn.name = "runtime.NumGoroutine":=by simpa using hname
  simp [callFunc,hf,hne,hb,program,Sem.run]
 have hvl:vs.length=args.length:=Vs_length hvs
 refine calls_of_wp hf hb (wp_mono (h H lim _ w ⟨fun j p hj=>?_,hrows,hglob,rfl,?_⟩) ?_)
 ·obtain ⟨_,hj⟩:=argEnv_look hj
  obtain ⟨v,h1,h2⟩:=Vs_get hvs hj
  simp only [Nat.sub_zero] at h1
  have hlt:=(List.getElem?_eq_some_iff.1 h1).1
  refine ⟨by omega,?_⟩
  have:((vs.toArray++Array.replicate (fn.ntmps - vs.toArray.size) undef).getD j undef)=v:=by
   rw [Array.getD_eq_getD_getElem?,Array.getElem?_append_left (by simpa using hlt)]
   simp [h1]
  rw [this]
  exact h2
 ·simp [hN,hvl]
 intro e a' w' hp
 have hptr:∀ {H':Nat→Option Value}{lim':Nat→Nat},Lk rows.length H lim w H' lim' w'→∀id v,stay v=true→H id=some v→H' id=H id:=fun lk id q hst hq=>by
  rcases Nat.lt_or_ge id rows.length with hlt|hlt
  ·exact lk.ptr id q hlt hst hq
  rw [hrows.dom id hlt] at hq;cases hq
 have key:∀X' H' lim',Rep [] G N H' lim' X' a' w'→Lk rows.length H lim w H' lim' w'→(∃ps L ps' ps'',aResults T X' fn.results.toList=some ps∧L.take rows.length=List.range rows.length∧nodupB L=true∧PV.subs (sIn L X'.rows) ps=some ps'∧pickRows (sIn L X'.rows) X'.rows L=some rows'∧PWs ps' ps''∧out=.ret (resOf ps''))→
   a'.defers=[]∧∃v,(results fn a'.tmps).run P w'=.ok v w'∧(∃(H':Nat→Option Value) (lim':Nat→Nat),RowsOk H' lim' w' rows'∧Fr (Bl H) lim w lim' w'∧(∀id v,stay v=true→H id=some v→H' id=H id)∧(∀b,Bl H' b→Bl H b∨w.heap.size≤b)∧
    OutOk H' lim' w' out (.returned v)):=by
  intro X' H' lim' hR lk ⟨ps,L,ps',ps'',q1,q2,q3,q4,q5,q6,q7⟩
  refine ⟨hR.defers,?_⟩
  obtain ⟨us,r1,r2⟩:=results_run (P:=P) hT hR q1
  have lk2:=lk.trans (pick_lk (H:=H') (lim:=lim') (w:=w') q2)
  have r3:=Vs.sub (Fr.refl (fun _=>False) lim' w') (sIn_ok hR.rows).1 (sIn_ok hR.rows).2 _ _ _ q4 r2
  refine ⟨_,r1,HL L H',lim',rows_pick hR.rows q3 q5,lk2.fr,hptr lk2,lk2.blocks,?_⟩
  subst q7
  exact ⟨_,rfl,resOf_V (q6.sound r3)⟩
 cases e <;> simp only [Post,bodyPost] at hp ⊢
 ·obtain ⟨X',H',lim',h1,h2,h3⟩:=hp
  exact key X' H' lim' h1 h2 h3
 ·obtain ⟨X',H',lim',h1,h2,h3⟩:=hp
  exact h3
 ·obtain ⟨X',H',lim',h1,h2,h3⟩:=hp
  exact key X' H' lim' h1 h2 h3
 obtain ⟨X',H',lim',v,p,rfl,h2,h3,h4,h5,L,p',q1,q2,q3,q4,q5⟩:=hp
 have lk2:=h5.trans (pick_lk (H:=H') (lim:=lim') (w:=w') q1)
 refine ⟨h4,HL L H',lim',rows_pick (X:=X') h2 q2 q4,lk2.fr,hptr lk2,lk2.blocks,?_⟩
 subst q5
 exact ⟨v,rfl,V.sub (Fr.refl (fun _=>False) lim' w') (sIn_ok h2).1 (sIn_ok h2).2 _ _ _ q3 h3⟩

/-- A condition on a slot: behind it the slot is told. -/
theorem awp_cond2{t:Nat}{x y:Code}{b:Bool}{Q:AExit→St→Prop}(hc:look X.env t=some (.d (.s (.bool b))))(h:onB b (AWp D P G N B x Q ⟨(t,.d (.s (.bool true)))::X.env,X.rows⟩) (AWp D P G N B y Q ⟨(t,.d (.s (.bool false)))::X.env,X.rows⟩)):AWp D P G N B (.cond (.tmp t) x y) Q X:=by
 intro H lim a w hR
 have hv:=hR.env t _ hc
 have hv2:=hv.2
 simp only [V,VD] at hv2
 exact wp_cond_split (show a.eval (.tmp t)=.bool b from hv2) (fun e=>(onB_elim h).1 e H lim a w (rep_same (d:=t) hR hv.1 (by simp only [V,VD];rw [hv2,e]))) (fun e=>(onB_elim h).2 e H lim a w (rep_same (d:=t) hR hv.1 (by simp only [V,VD];rw [hv2,e])))

/-- A nil slice, told as an owned row. -/
theorem sub_acc{t:Nat}(e:TypeId)(k:Nat)(ht:look X.env t=some (.d (.s (.slice none 0 0))))(hk:Nat.ble 1 k=true)(_hB:B≤X.rows.length):Sub D G N B X ⟨(t,.acc X.rows.length)::X.env,X.rows++[.acc e k []]⟩:=by
 intro H lim a w hR
 have hn:H X.rows.length=none:=hR.rows.dom _ (Nat.le_refl _)
 have hnx:=nx_push (D:=D) (r:=.acc e k []) (u:=.slice none 0 0) hR (Fr.refl _ lim w) (fun b hb=>hb.elim) ⟨.slice none 0 0,[],upd_same _ _ _,⟨by simp,.inl ⟨rfl,rfl⟩⟩,by simp only [List.flatten_nil,VDs],(fun _ q=>absurd q List.not_mem_nil),Nat.le_of_ble_eq_true hk,fun b q=>(by simp [blk] at q)⟩
 have hv:=(hR.env t _ ht)
 simp only [V,VD] at hv
 refine ⟨_,lim,rep_same (X:=⟨X.env,X.rows++[.acc e k []]⟩) hnx.rep hv.1 (p:=.acc X.rows.length) (d:=t) ?_,⟨hnx.fr.weaken fun b ⟨_,q,_⟩=>q.elim,fun id v _ hst h=>hnx.ptr id v hst h,hnx.blocks⟩⟩
 simp only [V]
 rw [upd_same,hv.2]
theorem awp_acc (t:Nat) (e:TypeId) (k:Nat) {c:Code}{Q:AExit→St→Prop}(ht:look X.env t=some (.d (.s (.slice none 0 0)))) (hk:Nat.ble 1 k=true) (hB:Nat.ble B X.rows.length=true)
  (h:AWp D P G N B c Q ⟨(t,.acc X.rows.length)::X.env,X.rows++[.acc e k []]⟩):AWp D P G N B c Q X:=awp_sub (sub_acc e k ht hk (Nat.le_of_ble_eq_true hB)) h
end

section
variable {P:Program}{T:Tab}{G:Glob}{D:List Deferred}{N B:Nat}{X X':St}{H H':Nat→Option Value}{lim lim':Nat→Nat}{a:Act}{w w':World}{L:List Nat}
theorem Vs_set{q:PV}{v:Value}:∀ {ps:List PV}{vs:List Value}{i:Nat},Vs H lim w ps vs→vs[i]? = some v→V H lim w q v→Vs H lim w (ps.set i q) vs
 |[],vs,i,h,hv,hq=>by simpa using h
 |p::ps,vs,i,h,hv,hq=>by
  simp only [Vs] at h
  obtain ⟨u,us,rfl,h1,h2⟩:=h
  cases i with
  |zero=>
   simp only [List.getElem?_cons_zero,Option.some.injEq] at hv
   subst hv
   simp only [List.set_cons_zero,Vs]
   exact ⟨_,us,rfl,hq,h2⟩
  |succ i=>
   simp only [List.getElem?_cons_succ] at hv
   simp only [List.set_cons_succ,Vs]
   exact ⟨u,us,rfl,h1,Vs_set h2 hv hq⟩
/-- A nil slice in a box's cell, told as an owned row. -/
theorem sub_accCell{id off:Nat}{ty:TypeId}{cells:List PV}(e:TypeId)(k:Nat)(hr:X.rows[id]? = some (.box ty cells))(hc:cells[off]? = some (.d (.s (.slice none 0 0))))(hk:Nat.ble 1 k=true)(_hB:B≤X.rows.length):
  Sub D G N B X ⟨X.env,X.rows.set id (.box ty (cells.set off (.acc X.rows.length)))++[.acc e k []]⟩:=by
 intro H lim a w hR
 have hn:H X.rows.length=none:=hR.rows.dom _ (Nat.le_refl _)
 have hnx:=nx_push (D:=D) (r:=.acc e k []) (u:=.slice none 0 0) hR (Fr.refl _ lim w) (fun b hb=>hb.elim) ⟨.slice none 0 0,[],upd_same _ _ _,⟨by simp,.inl ⟨rfl,rfl⟩⟩,by simp only [List.flatten_nil,VDs],(fun _ q=>absurd q List.not_mem_nil),Nat.le_of_ble_eq_true hk,fun b q=>(by simp [blk] at q)⟩
 have hid:id<X.rows.length:=(List.getElem?_eq_some_iff.1 hr).1
 have hrep:=hnx.rep
 refine ⟨_,lim,⟨hrep.env,⟨fun j q hj=>?_,hrep.rows.apart,fun j hj=>hrep.rows.dom j (by simpa using hj)⟩,hrep.glob,hrep.defers,hrep.size⟩,⟨hnx.fr.weaken fun b ⟨_,q,_⟩=>q.elim,fun id v _ hst h=>hnx.ptr id v hst h,hnx.blocks⟩⟩
 by_cases hjn:j=id
 ·subst hjn
  rw [List.getElem?_append_left (by simpa using hid),List.getElem?_set_self hid] at hj
  simp only [Option.some.injEq] at hj
  subst hj
  have:=hrep.rows.row j (.box ty cells) (by simp only;rw [List.getElem?_append_left hid];exact hr)
  obtain ⟨b,cs,h1,h2,h3,h4⟩:=this
  obtain ⟨v,hv1,hv2⟩:=Vs_get h3 hc
  simp only [V,VD] at hv2
  exact ⟨b,cs,h1,h2,Vs_set h3 hv1 (by simp only [V];rw [upd_same,hv2]),h4⟩
 refine hrep.rows.row j q ?_
 simp only at hj ⊢
 rcases Nat.lt_or_ge j X.rows.length with hlt|hlt
 ·rw [List.getElem?_append_left (by simpa using hlt),List.getElem?_set_ne (Ne.symm hjn)] at hj
  rw [List.getElem?_append_left hlt];exact hj
 rw [List.getElem?_append_right (by simpa using hlt)] at hj
 rw [List.getElem?_append_right hlt]
 simpa using hj
theorem awp_accCell (id off:Nat) (e:TypeId) (k:Nat) {ty:TypeId}{cells:List PV}{c:Code}{Q:AExit→St→Prop}(hr:X.rows[id]? = some (.box ty cells)) (hc:cells[off]? = some (.d (.s (.slice none 0 0)))) (hk:Nat.ble 1 k=true) (hB:Nat.ble B X.rows.length=true)
  (h:AWp D P G N B c Q ⟨X.env,X.rows.set id (.box ty (cells.set off (.acc X.rows.length)))++[.acc e k []]⟩):AWp D P G N B c Q X:=awp_sub (sub_accCell e k hr hc hk (Nat.le_of_ble_eq_true hB)) h
end
/-- Contracts told less sharply. -/
theorem Spec.weak{P:Program}{G:Glob}{f:FuncId}{args args':List PV}{rows rows':List Row}{p p':PV}(h:Spec P G f args rows (.ret p) rows')(ha:PWs args' args)(hp:PW p p'):Spec P G f args' rows (.ret p') rows':=by
 refine ⟨h.1,h.2.1,fun H lim w vs h1 h2 h3=>Calls.mono (h.2.2 H lim w vs h1 h2 (ha.sound h3)) ?_⟩
 intro e w' ⟨H',lim',q1,q2,q3,q4,v,q5,q6⟩
 exact ⟨H',lim',q1,q2,q3,q4,v,q5,hp.sound q6⟩
end Go.Abs
end
section
namespace Go.Abs
open Go Go.Proofs
attribute [local irreducible] aCall AWp Sub Spec
def str(s:ByteArray):Data:=.s (.string s)
def num(n:Int):Data:=.s (.int .i64 n)
def strs(l:List ByteArray):List (List Data):=l.map fun s=>[str s]
theorem strs_length(l:List ByteArray):(strs l).length=l.length:=by simp [strs]
theorem strs_get{l:List ByteArray}{k:Nat}(h:k<l.length):(strs l)[((k:Nat):Int).toNat]? = some [str (l[k]'h)]:=by
 rw [Int.toNat_natCast]
 simp [strs,h]
def tt:Data:=.s (.bool true)
def mapL(l:List ByteArray):List (ByteArray×Data):=l.foldl (fun m w=>mapPut m w tt) []
theorem mapL_succ(l:List ByteArray)(k:Nat)(h:k<l.length):mapPut (mapL (l.take k)) (l[k]'h) tt=mapL (l.take (k+1)):=by
 unfold mapL
 rw [List.take_succ_eq_append_getElem h,List.foldl_append]
 rfl
theorem reserved_spec(G:Glob)(l:List ByteArray)(hl:l.length<1000):Spec Tryz.prog G 254 [.d (.sl 1 (strs l))] [] (.ret (.acc 0)) [.map 212 (mapL l)]:=by
 refine spec_of_awp2 TT_ok (N:=17) Tryz.func254 rfl (by rfl) (Nat.zero_le _) rfl ?_;refine rz [0] ?_;refine rz [0,3] ?_;refine awp_seq ?_;refine rz [3,7,8,9] ?_;refine awp_block ?_;refine awp_loop (fun n Y=>∃k:Nat,n=l.length - k∧k≤l.length∧Y=⟨[(3,.acc 0),(7,.d (.sl 1 (strs l))),(8,.d (.s (.int .i64 (strs l).length))),(9,.d (.s (.int .i64 k)))],[.map 212 (mapL (l.take k))]⟩) (l.length) (⟨0,rfl,Nat.zero_le _,rfl⟩) ?_;rintro n Y ⟨k,hn,hk,rfl⟩;refine rz [3,7,8,9,10] ?_;refine awp_seq ?_;refine awp_cond2 rfl (onB_intro (fun h1=>?_) (fun h1=>?_))
 ·have h1':=of_decide_eq_true h1
  rw [strs_length] at h1';refine awp_skip ?_;refine awp_seq ?_;refine awp_block ?_;refine rgs fun E K J O=>?_;refine And.intro (by omega) (Exists.intro _ (And.intro (strs_get (by omega)) ?_));refine O _ (aN [3,5,7,8,9] rfl rfl ?_);clear O J K E;refine rgn fun E K J O=>?_;refine Exists.intro _ (And.intro rfl ?_);refine O _ (aN [3,7,8,9] rfl rfl ?_);clear O J K E;refine rgn fun E K J O=>?_;refine O _ ?_;clear O J K E;refine ⟨n - 1,by omega,_,sub_norm (slots:=[3,7,8,9]) rfl rfl,k+1,by omega,by omega,?_⟩;rw [show IntKind.i64.wrap ((k:Int)+1)=((k+1:Nat):Int) from by rw [wrapId (by omega) (by omega)];omega,show Data.s (Value.bool true)=tt from rfl,mapL_succ l k (by omega)]
 have h1':=of_decide_eq_false h1;rw [strs_length] at h1'
 obtain rfl:k=l.length:=by omega
 rw [List.take_length];refine awp_exit ?_;refine rz [2] ?_;refine awp_ret ?_;exact ⟨_,[0],_,_,rfl,rfl,rfl,rfl,rfl,PWs.refl _,rfl⟩
def resW:List ByteArray:=[⟨#[118,97,114]⟩,⟨#[97,114,114,97,121]⟩,⟨#[112,114,111,99]⟩,⟨#[109,97,105,110]⟩,⟨#[114,101,116,117,114,110]⟩,⟨#[99,97,108,108]⟩,⟨#[105,102]⟩,⟨#[101,108,115,101]⟩,⟨#[119,104,105,108,101]⟩,⟨#[97,115,115,101,114,116]⟩,⟨#[97,115,115,117,109,101]⟩,⟨#[114,101,97,100]⟩,⟨#[97,110,100]⟩,⟨#[111,114]⟩,⟨#[116,114,117,101]⟩,⟨#[102,97,108,115,101]⟩]
theorem words_spec(G:Glob):Spec Tryz.prog G 210 [] [] (.ret (.acc 0)) [.map 212 (mapL resW)]:=by
 refine spec_of_awp2 TT_ok (N:=3) Tryz.func210 rfl (by rfl) (Nat.zero_le _) rfl ?_;refine rz [] ?_;refine rgs fun E K J O=>?_;refine aS [] (reserved_spec G resW (by decide)) ?_;refine O _ (aN [0] rfl rfl ?_);clear O J K E;refine awp_ret ?_;exact ⟨_,[0],_,_,rfl,rfl,rfl,rfl,rfl,PWs.refl _,rfl⟩
theorem mapPut_tt:∀(m:List (ByteArray×Data)) (w:ByteArray),(∀x∈m,x.2=tt)→∀x∈mapPut m w tt,x.2=tt
 |[],w,h,x,hx=>by simp only [mapPut,List.mem_singleton] at hx;rw [hx]
 | (k,q)::r,w,h,x,hx=>by
  simp only [mapPut] at hx;split at hx
  ·rcases List.mem_cons.1 hx with rfl|hx
   ·rfl
   exact h x (List.mem_cons_of_mem _ hx)
  rcases List.mem_cons.1 hx with rfl|hx
  ·exact h _ (List.mem_cons_self ..)
  exact mapPut_tt r w (fun y hy=>h y (List.mem_cons_of_mem _ hy)) x hx
theorem mapL_tt(l:List ByteArray):∀x∈mapL l,x.2=tt:=by
 unfold mapL
 suffices h:∀(l:List ByteArray) (m:List (ByteArray×Data)),(∀x∈m,x.2=tt)→∀x∈l.foldl (fun m w=>mapPut m w tt) m,x.2=tt from h l [] (by simp)
 intro l
 induction l with
 |nil=>intro m h;exact h
 |cons w r ih=>intro m h;exact ih _ (mapPut_tt m w h)
theorem mapGet_tt:∀ {m:List (ByteArray×Data)}{w:ByteArray}{p:Data},(∀x∈m,x.2=tt)→mapGet m w=some p→p=tt
 |[],_,_,_,h=>by cases h
 | (k,q)::r,w,p,hm,h=>by
  simp only [mapGet] at h;split at h
  ·cases h;exact hm _ (List.mem_cons_self ..)
  exact mapGet_tt (fun y hy=>hm y (List.mem_cons_of_mem _ hy)) h
def isRes(s:ByteArray):Bool:=(mapGet (mapL resW) s).isSome
def letF(s:ByteArray):Nat→Nat→Bool
 |0,_=>true
 |n+1,i=>match decide ((i:Int)<(s.size:Int)) with
  |true=>match (decide (byteAt s i<97)||decide (byteAt s i>122)) with
   |true=>false
   |false=>letF s n (i+1)
  |false=>true
def isNameF(s:ByteArray):Bool:=match letF s s.size 0 with
 |true=>(!(s.toList==(⟨#[]⟩:ByteArray).toList))&&decide ((s.size:Int)≤8)&&!isRes s
 |false=>false
attribute [local irreducible] mapL
theorem isName_spec(G:Glob)(s:ByteArray)(hs:s.size<4611686018427387904):Spec Tryz.prog G 150 [.d (str s)] [] (.ret (.d (.s (.bool (isNameF s))))) []:=by
 obtain ⟨r,hr⟩:∃r,isNameF s=r:=⟨_,rfl⟩;rw [hr];refine spec_of_awp2 TT_ok (N:=33) Tryz.func150 rfl (by rfl) (Nat.le_refl _) rfl ?_;refine rz [0] ?_;refine awp_seq ?_;refine rz [0,5,6] ?_;refine awp_block ?_;refine awp_loop (fun n Y=>∃k:Nat,n=s.size - k∧k≤s.size∧letF s n k=letF s s.size 0∧Y=⟨[(0,.d (.s (.string s))),(5,.d (.s (.int .i64 s.size))),(6,.d (.s (.int .i64 k)))],[]⟩) (s.size) (⟨0,rfl,Nat.zero_le _,rfl,rfl⟩) ?_;rintro n Y ⟨k,hn,hk,hlb,rfl⟩;refine rz [0,5,6,7] ?_;refine awp_seq ?_;refine awp_cond2 rfl (onB_intro (fun h1=>?_) (fun h1=>?_))
 ·have h1':=of_decide_eq_true h1
  obtain ⟨m,rfl⟩:∃m,n=m+1:=⟨n - 1,by omega⟩;simp only [letF,h1] at hlb;refine awp_skip ?_;refine awp_seq ?_;refine awp_block ?_;refine rz [0,3,5,6] ?_;refine rgs fun E K J O=>?_;refine And.intro (by omega) (And.intro (by omega) ?_);refine onB_intro (fun h2=>?_) (fun h2=>?_)
  ·try simp only [h2,Bool.true_or] at hlb
   refine O _ (aN [0,5,6,18] rfl rfl ?_);clear O J K E;refine awp_cond rfl ?_;refine rz [2] ?_;refine awp_ret ?_;simp only [isNameF,← hlb] at hr;subst hr;exact ⟨_,[],_,_,rfl,rfl,rfl,rfl,rfl,PWs.refl _,rfl⟩
  refine And.intro (by omega) (And.intro (by omega) ?_);refine O _ (aN [0,5,6,18] rfl rfl ?_);clear O J K E;refine awp_cond2 rfl (onB_intro (fun h3=>?_) (fun h3=>?_))
  ·try simp only [h2,h3,Bool.false_or] at hlb
   refine rz [2] ?_;refine awp_ret ?_;simp only [isNameF,← hlb] at hr;subst hr;exact ⟨_,[],_,_,rfl,rfl,rfl,rfl,rfl,PWs.refl _,rfl⟩
  try simp only [h2,h3,Bool.false_or] at hlb
  refine awp_skip ?_;refine rgn fun E K J O=>?_;refine O _ ?_;clear O J K E;refine ⟨m,by omega,_,sub_norm (slots:=[0,5,6]) rfl rfl,k+1,by omega,by omega,hlb,?_⟩;rw [show IntKind.i64.wrap ((k:Int)+1)=((k+1:Nat):Int) from by rw [wrapId (by omega) (by omega)];omega]
 have h1':=of_decide_eq_false h1
 obtain rfl:n=0:=by omega
 simp only [letF] at hlb;refine awp_exit ?_;refine rgs fun E K J O=>?_;refine onB_intro (fun h2=>?_) (fun h2=>?_)
 ·try simp only [h2,Bool.true_or] at hlb
  refine onB_intro (fun h3=>?_) (fun h3=>?_)
  ·try simp only [h2,h3,Bool.false_or] at hlb
   refine aS [] (words_spec G) ?_
   cases hm:mapGet (mapL resW) s with
   |none=>
    refine ⟨none,hm,?_⟩;refine O _ (aN [2] rfl rfl ?_);clear O J K E;refine awp_ret ?_;simp only [isNameF,← hlb,h2,h3,isRes,hm,Option.isSome,Bool.and_true,Bool.not_false] at hr;subst hr;exact ⟨_,[],_,_,rfl,rfl,rfl,rfl,rfl,PWs.refl _,rfl⟩
   |some p=>
    obtain rfl:=mapGet_tt (mapL_tt _) hm;refine ⟨some tt,hm,?_⟩;refine O _ (aN [2] rfl rfl ?_);clear O J K E;refine awp_ret ?_;simp only [isNameF,← hlb,h2,h3,isRes,hm,Option.isSome,Bool.and_true,Bool.and_false,Bool.not_true] at hr;subst hr;exact ⟨_,[],_,_,rfl,rfl,rfl,rfl,rfl,PWs.refl _,rfl⟩
  try simp only [h2,h3,Bool.false_or] at hlb
  refine O _ (aN [2] rfl rfl ?_);clear O J K E;refine awp_ret ?_;simp only [isNameF,← hlb,h2,h3,Bool.false_and,Bool.and_false] at hr;subst hr;exact ⟨_,[],_,_,rfl,rfl,rfl,rfl,rfl,PWs.refl _,rfl⟩
 refine O _ (aN [2] rfl rfl ?_);clear O J K E;refine awp_ret ?_;simp only [isNameF,← hlb,h2,Bool.false_and] at hr;subst hr;exact ⟨_,[],_,_,rfl,rfl,rfl,rfl,rfl,PWs.refl _,rfl⟩
end Go.Abs
end
