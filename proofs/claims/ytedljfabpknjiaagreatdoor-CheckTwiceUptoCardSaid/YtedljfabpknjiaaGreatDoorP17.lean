/- Texts of this proof, joined: AbsJH. -/
import Derived.Test.YtedljfabpknjiaaGreatDoorP16
import Derived.Test.YtedljfabpknjiaaGreatDoorP12
import Derived.Test.YtedljfabpknjiaaGreatDoorP13
section
namespace Go.Abs
open Go Go.Proofs
attribute [local irreducible] aCall AWp Sub Spec
theorem wtV_app:∀a b:List ByteArray,wtV (a++b)+1=wtV a+wtV b
 |[],b=>by simp only [List.nil_append,wtV];omega
 |v::a,b=>by have:=wtV_app a b;simp only [List.cons_append,wtV];omega
theorem wtV_prm:∀l:List Pc,wtV (prmF l)≤wtP l
 |[]=>by simp [prmF,wtV,wtP]
 |f::r=>by
  have:=wtV_app f.params (prmF r);have:=wtV_prm r;simp only [prmF,wtP];omega
section
variable {t:Nat→TypeId}{u:Nat→Value}
theorem lyP_of{arrays:List Ar}{procs:List Pc}{main:List Sm}(h:WfP arrays procs main)(hw:wtP procs≤1000000000):LyP procs:=⟨by have:=wtP_len procs;omega,fun f hf=>by
 have h1:=wtP_mem hf
 exact ⟨(h.pc f hf).1,by omega⟩⟩
theorem prm_le{procs:List Pc}(hw:wtP procs≤110000000):∀f,f∈procs→f.params.length≤110000000:=fun f hf=>by
 have h1:=wtP_mem hf;have h2:=wtV_len f.params;omega
theorem arr_len{arrays:List Ar}{procs:List Pc}{main:List Sm}(hwf:WfP arrays procs main){ps:List Pc}{F:Int}{n:Nat}{l:List Sm}{inp:List Int}{k:ByteArray}{S1:MS}(m1:allM ps F n l ⟨[],arZ arrays,inp,0⟩=some (k,S1)):LenOk S1.ar:=all_ky setA_len m1 (fun q hq=>by
 obtain ⟨a,ha,rfl⟩:=List.mem_map.1 hq;have:=hwf.size a ha
 show (List.replicate a.size.toNat (0:Int)).length≤16
 rw [List.length_replicate]
 omega)
/-- The law, over pure values. -/
theorem checkTwice_true(hE:ErrsOk t u)(n f:Nat)(p:Pg)(hok:okPg n f p=true)(hw0:wtPg p≤110000000)(inp:List Int):Spec Tryz.prog (GV t u) 13 [.d (.agg p.cs),.d (.sl 1 (numsD inp))] [] (.ret (.d (.s (.bool true)))) []:=by
 by_cases hb:¬inp.length≤40
 ·exact two_out p inp (by omega)
 have hlen:=Decidable.not_not.1 hb
 have hw:wtPg p≤400000000:=by omega
 have hw2:wtPg p≤1000000000:=by omega
 have sw:textF n f p≠.out→Spec Tryz.prog (GV t u) 22 [.d (.agg p.cs)] [] (.ret (outT t u (textF n f p))) []:=text_spec t u (itoa_ok t u) n f p;have ht:=textF_law' n f p hok (by omega);obtain ⟨vars,arrays,procs,main⟩:=p
 have bad:textF n f ⟨vars,arrays,procs,main⟩=.bad→Spec Tryz.prog (GV t u) 13 [.d (.agg (Pg.cs ⟨vars,arrays,procs,main⟩)),.d (.sl 1 (numsD inp))] [] (.ret (.d (.s (.bool true)))) []:=by
  intro e;rw [e] at sw;exact two_err _ hw2 inp hlen 1 (inline_err vars arrays procs main 1 (check_no vars arrays procs main (sw nofun)))
 cases hp:progI ⟨vars,arrays,procs,main⟩ with
 |none=>
  rw [hp] at ht;exact bad ht
 |some y=>
  obtain ⟨s,z⟩:=y;rw [hp] at ht
  cases hz:decide (s.size≤4000) with
  |false=>
   simp only [hz] at ht;exact bad ht
  |true=>
   simp only [hz] at ht;rw [ht] at sw;have hsz:=of_decide_eq_true hz;have hc:=check_yes (t:=t) (u:=u) vars arrays procs main hw s (sw nofun)
   cases hk:checkF vars arrays procs main with
   |some j=>
    rw [hk] at hc;exact two_err _ hw2 inp hlen j (inline_err vars arrays procs main j hc)
   |none=>
    rw [hk] at hc;have hwf:=wf_of hp hk;have hwz:=hw0;simp only [wtPg] at hwz;have hP:=lyP_of hwf (by omega);obtain ⟨n1,R,M,hL,hM⟩:=right_lay hk 110000000 (prm_le (by omega));have hpl:=wtP_len procs
    by_cases hmany:400<M
    ·exact two_err _ hw2 inp hlen 0 (inline_many vars arrays procs main hc hP hw hwf.mn n1 R M hL (by omega) hmany)
    obtain ⟨r,hi,hRr,hcnt⟩:=lay_inl procs n1 main [] 0 R M hL (by omega);rw [List.nil_append] at hRr;subst hRr;have hg:=right_good hp hsz hk hi;obtain ⟨hokR,hwR⟩:=ok_B R fun y hy=>(good_see (hg y hy)).2.2.1
    by_cases hdeep:12<dpB R
    ·exact two_err _ hw2 inp hlen 0 (inline_deep vars arrays procs main hc hP hw hwf.mn n1 R M hL (by omega) (by omega) (by omega) hdeep)
    have s1:=inline_ok vars arrays procs main hc hP hw hwf.mn n1 R M hL (by omega) (by omega) (by omega) (by omega);have hv1:=wtV_app vars (prmF procs);have hv2:=wtV_prm procs;have hv3:=wtV_len (vars++prmF procs);have hal:=wtA_len arrays
    have hwq:wtPg ⟨vars++prmF procs,arrays,[],R⟩≤400000000:=by simp only [wtPg,wtP];omega
    have hokq:okPg 9900 (fuB R+1) ⟨vars++prmF procs,arrays,[],R⟩=true:=by
     simp only [okPg,Bool.and_eq_true] at hok;simp only [okPg,hok.1.1,okP',hokR,Bool.true_and,decide_eq_true_eq];exact Nat.le_refl _
    have swq:textF 9900 (fuB R+1) ⟨vars++prmF procs,arrays,[],R⟩≠.out→Spec Tryz.prog (GV t u) 22 [.d (.agg (Pg.cs ⟨vars++prmF procs,arrays,[],R⟩))] [] (.ret (outT t u (textF 9900 (fuB R+1) ⟨vars++prmF procs,arrays,[],R⟩))) []:=text_spec t u (itoa_ok t u) 9900 (fuB R+1) _;have htq:=textF_law' 9900 (fuB R+1) _ hokq (by omega);have sc:Spec Tryz.prog (GV t u) 25 [.d (.s (.iface (t 1) (u 1))),.d (num 3)] [] (.ret (.d (.s (.bool true)))) []:=coded_err hE 1 (by decide) 3
    have badq:textF 9900 (fuB R+1) ⟨vars++prmF procs,arrays,[],R⟩=.bad→Spec Tryz.prog (GV t u) 13 [.d (.agg (Pg.cs ⟨vars,arrays,procs,main⟩)),.d (.sl 1 (numsD inp))] [] (.ret (.d (.s (.bool true)))) []:=by
     intro e;rw [e] at swq;exact two_shape _ hw2 inp hlen _ _ _ s1 (inline_err _ _ _ _ 1 (check_no _ _ _ _ (swq nofun))) sc
    cases hpq:progI ⟨vars++prmF procs,arrays,[],R⟩ with
    |none=>
     rw [hpq] at htq;exact badq htq
    |some y=>
     obtain ⟨sq,zq⟩:=y;rw [hpq] at htq
     cases hzq:decide (sq.size≤4000) with
     |false=>
      simp only [hzq] at htq;exact badq htq
     |true=>
      simp only [hzq] at htq;rw [htq] at swq;have hkq:=inl_check hk hg;have hcq:=check_yes (t:=t) (u:=u) _ _ _ _ hwq sq (swq nofun);rw [hkq] at hcq;have hwfq:=wf_of hpq hkq;have hPq:LyP []:=⟨by simp,fun f hf=>by cases hf⟩;obtain ⟨n2,R2,M2,hL2,_⟩:=right_lay hkq 0 (fun f hf=>by cases hf);obtain ⟨e1,e2⟩:=lay_free [] n2 R [] 0 R2 M2 (fun y hy=>(good_see (hg y hy)).2.2.2) (by omega) hL2;rw [List.nil_append] at e1;subst e1;have s2:=inline_ok _ _ _ _ hcq hPq hwq hwfq.mn n2 R2 M2 hL2 (by omega) (by omega) (by omega) (by omega);rw [show (vars++prmF procs)++prmF []=vars++prmF procs from by simp [prmF]] at s2;have sb:=back_spec (GV t u) ⟨vars++prmF procs,arrays,[],R2⟩ ⟨by omega,by simp only;omega,hokR,fun f hf=>by cases hf⟩;have ss:=sameProg_spec (GV t u) (sameArrays_spec _) ⟨vars++prmF procs,arrays,[],R2⟩ (by omega)
      by_cases hfar:∃n,n∈inp∧farM n=true
      ·exact two_far _ hw2 inp hlen _ _ _ s1 s2 sb ss 0 0 (run_far vars arrays procs main inp 2000 hc hlen (by omega) (by omega) hfar) (run_far _ _ _ _ inp 4000 hcq hlen (by omega) (by omega) hfar)
      have hcond:∀n,n∈inp→farM n=false:=fun n hn=>by
       cases q:farM n with
       |false=>rfl
       |true=>exact absurd ⟨n,hn,q⟩ hfar
      obtain ⟨k1,S1,m1⟩:=all_some procs 2000 12010 main ⟨[],arZ arrays,inp,0⟩ (by show (0:Int)≤2000;omega) (by show 3 * ((2000:Int) - 0)+1≤_;omega);obtain ⟨k2,S2,m2⟩:=all_some [] 4000 12010 R2 ⟨[],arZ arrays,inp,0⟩ (by show (0:Int)≤4000;omega) (by show 3 * ((4000:Int) - 0)+1≤_;omega);have r1:=run_ok vars arrays procs main inp 2000 hc hwf hw hlen (by omega) (by omega) hcond 12010 k1 S1 m1;have r2:=run_ok _ _ _ _ inp 4000 hcq hwfq hwq hlen (by omega) (by omega) hcond 12010 k2 S2 m2;have hsim:=sml2_law (fun f hf=>(hwf.pc f hf).1) hi hwf.mn m1 m2;have hlk:=arr_len hwf m1;have hvl:=wtV_len vars;simp only [endD,arr_ls] at r1 r2
      refine two_run _ hw2 inp hlen _ _ _ s1 s2 sb ss k1 k2 S1.steps S2.steps _ _ _ _ r1 r2 (fun h1 h2=>?_) (by rw [List.length_map];omega) (by rw [List.length_map];omega) (fun x hx=>by
       obtain ⟨a,_,rfl⟩:=List.mem_map.1 hx
       exact getA_len hlk)
      rcases hsim with e|e|⟨e1,e2,e3⟩
      ·rw [e] at h1;simp [wTired] at h1
      ·rw [e] at h2;simp [wTired] at h2
      exact ⟨(prmF procs).map (getV S2.vs),e1.symm,by rw [e2,List.map_append],by rw [e3]⟩
end
end Go.Abs
end
