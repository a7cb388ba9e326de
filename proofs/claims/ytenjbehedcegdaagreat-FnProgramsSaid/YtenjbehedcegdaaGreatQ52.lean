/-
  Texts of this claim, joined (part 52). No condition beyond those of the theorems.
-/
import Derived.Test.YtenjbehedcegdaaGreatQ51
import Derived.Test.YtenjbehedcegdaaGreatQ46
import Derived.Test.YtenjbehedcegdaaGreatQ31
import Derived.Test.YtenjbehedcegdaaGreatQ02
namespace Go.Proofs.YtenjbehedcegdaaGreat
open Go.RowKit
set_option linter.unusedSimpArgs false
set_option linter.unusedVariables false
set_option maxRecDepth 100000
set_option maxHeartbeats 16000000
def A6s:G4:=fun f=>match y9 f with
 | some k=>some k
 | none=>A4A f
theorem B0L:B5 Tryz.prog A6s:=W6 J7 A8M
attribute [go_sem] A6s T0
def A5y:G4:=fun f=>match A6s f with
 | some k=>some k
 | none=>A3p f
theorem A9k:B5 Tryz.prog A5y:=W6 B0L z7
attribute [go_sem] A5y T0
def A6R:G4:=fun f=>match A5y f with
 | some k=>some k
 | none=>l9 f
theorem E6:B5 Tryz.prog A6R:=W6 A9k A16
attribute [go_sem] A6R T0
def Z7:GCon where
  ps:=[.ptr ((.prod (.int .i64) (.prod (.row 26 (.row 2 (.int .i64))) (.prod (.row 67 (.prod (.int .i64) (.prod (.int .i64) (.prod (.int .i64) (.row 2 (.int .i64)))))) (.row 2 (.int .i64)))))),.po 0,.val ((.row 26 (.row 2 (.int .i64)))),.val (.int .i64),.val (.int .i64)]
  os:=[.box [.rd ((.row 26 (.row 2 (.int .i64))))]]
  c:=fun x=>G3 x.1.1=true∧A2L x.1.1 x.2.1.1∧A2W x.1.1 x.1.2.2.1∧0≤x.1.2.2.2.1∧0≤x.1.2.2.2.2.1∧x.1.2.2.2.1+x.1.2.2.2.2.1≤1000000
  r:=fun _=>.c (.ow 10)
  o:=fun x=>[(30,.box [.rd [] 26 ((.row 2 (.int .i64))) ((D0 x.1.1 x.1.2.2.1 x.1.2.2.2.1 (Int.toNat x.1.2.2.2.2.1) (x.2.1.1,List.replicate x.1.1.2.2.2.length [])).1)]),(10,.tree 26 (.row 2 (.int .i64)) ((D0 x.1.1 x.1.2.2.1 x.1.2.2.2.1 (Int.toNat x.1.2.2.2.2.1) (x.2.1.1,List.replicate x.1.1.2.2.2.length [])).2) none)]
  ok:=by
    rintro⟨⟨⟨(pi:Int),(ts:List (List Int)),(ns:List B1),(os:List Int)⟩,_,(ins:List (List Int)),(frm:Int),(nn:Int),_⟩,⟨⟨(cc:List (List Int)),_⟩,_⟩⟩
    exact⟨rfl,rfl,by decide⟩
theorem B0W:l6 Tryz.prog 56 Z7:=by
  refine F1 Tryz.func56 rfl ?_
  have hres:Tryz.f56.results.toList=[.tmp 10]:=rfl
  rintro⟨⟨⟨(pi:Int),(ts:List (List Int)),(ns:List B1),(os:List Int)⟩,_,(ins:List (List Int)),(frm:Int),(nn:Int),_⟩,⟨⟨(cc:List (List Int)),_⟩,_⟩⟩ hc hL hO
  simp only[Z7,go_sem] at hL
  simp only[Z7,go_sem] at hO
  simp only[Z7,St.init,St.initG,Tryz.ntmps56,go_sem] 
  obtain⟨hP,hcc,hin,hfr,hnn,hfn⟩:=(show G3 (pi,ts,ns,os)=true∧A2L (pi,ts,ns,os) cc∧A2W (pi,ts,ns,os) ins∧0≤frm∧0≤nn∧frm+nn≤1000000 from hc)
  obtain⟨hF,hol⟩:=E1 hP
  have hn24:ns.length≤24:=(C0 hF).1
  have ho4:os.length≤4:=(C0 hF).2.1
  have hwn:IntKind.i64.wrap (frm+nn)=frm+nn:=H4 (by omega)
  have hor:B0h ns=(E3 ns,true):=B8u (E1 hP).2
  have hpi0:0≤pi∧pi≤4:=⟨(C0 hF).2.2.2.1,(C0 hF).2.2.2.2.1⟩
  refine oS fun _ hK1=>?_;refine oW E6 ?_;simp only[go_sem];refine hK1 _ ?_;refine oS fun _ hK2=>?_;refine oW E6 ?_;simp (maxSteps:=2000000)only[hor,go_sem];repeat(with_reducible first|refine oA ?_|refine And.intro (by first|exact hF) ?_)
  refine hK2 _ ?_;refine oS fun _ hK3=>?_;refine oW E6 ?_;simp only[List.nodup_nil,go_sem];repeat(with_reducible refine oA ?_)
  refine hK3 _ ?_;refine oS fun _ hK4=>?_;refine oS fun _ hK5=>?_;refine oW E6 ?_;simp only[go_sem];refine hK5 _ ?_;refine A3 ?_;refine A8 (ι:={ k:Nat // k≤os.length }) (fun k=>⟨[.c (.pt [] ((.prod (.int .i64) (.prod (.row 26 (.row 2 (.int .i64))) (.prod (.row 67 (.prod (.int .i64) (.prod (.int .i64) (.prod (.int .i64) (.row 2 (.int .i64)))))) (.row 2 (.int .i64)))))) (pi,ts,ns,os) 0),.c (.po 30 0),.c (.rd [] 26 (.row 2 (.int .i64)) (ins)),.c (.sc (.int .i64 (frm))),.c (.sc (.int .i64 (nn))),zz,zz,zz,zz,zz,zz,.c (.ow 9004),zz,.c (.ow 9001),.c (.sc (.int .i64 (k.1))),zz,zz,zz,zz,zz,zz,zz,zz,zz,zz,zz,zz,zz,zz,zz,zz,zz,zz,zz,zz,zz,zz,zz,zz,zz,zz,zz,zz,zz,zz,zz,zz,zz,zz,zz,zz,zz,zz,zz,zz,zz,zz,zz,zz,zz,zz,zz,zz,zz,zz,zz,zz,zz,zz,zz,zz,zz,zz,zz,zz,zz,zz,zz,zz,zz,zz,zz,zz,zz,zz,zz,zz,zz,zz,zz,zz,zz,zz,zz,zz,zz,zz,zz,zz,zz,zz,zz],[(30,.box [.rd [] 26 ((.row 2 (.int .i64))) (cc)]),(9004,.row 2 (.int .i64) (E3 ns) []),(9001,.tree 26 (.row 2 (.int .i64)) (List.replicate k.1 []) none)]⟩) (fun k=>os.length - k.1) ⟨0,by simp⟩ ?_ ?_
  ·
   refine oK ?_;simp (maxSteps:=2000000)only[go_sem];all_goals((repeat' refine And.intro ?_ ?_)<;>first|rfl|omega|(congr 1;done)|simp)
  rintro⟨k,hk⟩ K6 hL6
  have hrl:(List.replicate k ([]:List Int)).length=k:=List.length_replicate
  refine oS fun _ hK7=>?_;refine oS fun _ hK8=>?_;refine oW E6 ?_;simp (maxSteps:=2000000)only[go_sem];repeat(with_reducible refine oA ?_)
  refine hK8 _ ?_;refine oC rfl ?_ ?_
  ·
   intro c0;refine A2 ?_;simp only[go_sem];refine hK7 _ ?_;refine oS fun _ hK9=>?_;refine A3 ?_;refine oW E6 ?_;simp (maxSteps:=2000000)only[List.nodup_cons,List.nodup_nil,List.not_mem_nil,not_false_eq_true,go_sem];repeat(with_reducible refine oA ?_)
   refine hK9 _ ?_;refine oW E6 ?_;simp only[go_sem];refine hL6 ⟨k+1,by omega⟩ _ (oK ?_) ?_
   ·
    simp (maxSteps:=2000000)only[go_sem];all_goals((repeat' refine And.intro ?_ ?_)<;>first|rfl|exact wk (by omega)|(congr 1;exact List.replicate_succ'.symm)|(congr 1;done))
   ·
    first|(simp only[];omega)|omega|(simp;omega)
  intro c0;refine B6 ?_;simp only[go_sem];refine hK4 _ ?_;refine oS fun _ hK10=>?_;refine oS fun _ hK11=>?_;refine oW E6 ?_;simp only[go_sem];refine hK11 _ ?_;refine A3 ?_;refine A8 (ι:={ k:Nat // k≤nn.toNat }) (fun k=>⟨[.c (.pt [] ((.prod (.int .i64) (.prod (.row 26 (.row 2 (.int .i64))) (.prod (.row 67 (.prod (.int .i64) (.prod (.int .i64) (.prod (.int .i64) (.row 2 (.int .i64)))))) (.row 2 (.int .i64)))))) (pi,ts,ns,os) 0),.c (.po 30 0),.c (.rd [] 26 (.row 2 (.int .i64)) (ins)),.c (.sc (.int .i64 (frm))),.c (.sc (.int .i64 (nn))),zz,zz,zz,zz,zz,zz,.c (.ow 9004),zz,.c (.ow 9001),zz,.c (.sc (.int .i64 (frm+(k.1:Int)))),zz,zz,zz,zz,zz,zz,zz,zz,zz,zz,zz,zz,zz,zz,zz,zz,zz,zz,zz,zz,zz,zz,zz,zz,zz,zz,zz,zz,zz,zz,zz,zz,zz,zz,zz,zz,zz,zz,zz,zz,zz,zz,zz,zz,zz,zz,zz,zz,zz,zz,zz,zz,zz,zz,zz,zz,zz,zz,zz,zz,zz,zz,zz,zz,zz,zz,zz,zz,zz,zz,zz,zz,zz,zz,zz,zz,zz,zz,zz,zz,zz,zz,zz,zz,zz,zz],[(30,.box [.rd [] 26 ((.row 2 (.int .i64))) ((D0 (pi,ts,ns,os) ins frm k.1 (cc,List.replicate os.length [])).1)]),(9004,.row 2 (.int .i64) (E3 ns) []),(9001,.tree 26 (.row 2 (.int .i64)) ((D0 (pi,ts,ns,os) ins frm k.1 (cc,List.replicate os.length [])).2) none)]⟩) (fun k=>nn.toNat - k.1) ⟨0,by simp⟩ ?_ ?_
  ·
   refine oK ?_;simp (maxSteps:=2000000)only[go_sem];all_goals((repeat' refine And.intro ?_ ?_)<;>first|rfl|omega|(congr 1;exact congrArg (fun z=>List.replicate z _) (by omega))|(congr 1;done)|simp)
  rintro⟨k,hk⟩ K12 hL12
  obtain⟨hks,hko⟩:=A9w (p:=(pi,ts,ns,os)) (ins:=ins) (frm:=frm) (s:=cc) (o:=List.replicate os.length []) hF hcc hin (by simp) k
  obtain⟨hfl,hff⟩:=A34 (p:=(pi,ts,ns,os)) hin (frm+(k:Int))
  have hfal:(D3 ins (frm+(k:Int))).length=ins.length:=by simp[D3]
  have hko:(D0 (pi,ts,ns,os) ins frm k (cc,List.replicate os.length [])).2.length=os.length:=hko
  have hil:(ins.length:Int)=pi:=hin.1
  have hvo:=A7g (p:=(pi,ts,ns,os)) (s:=(D0 (pi,ts,ns,os) ins frm k (cc,List.replicate os.length [])).1) (fr:=(D3 ins (frm+(k:Int)))) hF hks hff
  refine oS fun _ hK13=>?_;refine oS fun _ hK14=>?_;refine oW E6 ?_;simp (maxSteps:=2000000)only[hwn,go_sem];refine hK14 _ ?_;refine oC rfl ?_ ?_
  ·
   intro c1;refine A2 ?_;simp only[go_sem];refine hK13 _ ?_;refine oS fun _ hK15=>?_;refine A3 ?_;refine oS fun _ hK16=>?_;refine oW E6 ?_;simp only[List.nodup_nil,go_sem];repeat(with_reducible refine oA ?_)
   refine hK16 _ ?_;refine oS fun _ hK17=>?_;refine oS fun _ hK18=>?_;refine oW E6 ?_;simp only[go_sem];refine hK18 _ ?_;refine A3 ?_;refine A8 (ι:={ m:Nat // m≤ins.length }) (fun k'=>⟨[.c (.pt [] ((.prod (.int .i64) (.prod (.row 26 (.row 2 (.int .i64))) (.prod (.row 67 (.prod (.int .i64) (.prod (.int .i64) (.prod (.int .i64) (.row 2 (.int .i64)))))) (.row 2 (.int .i64)))))) (pi,ts,ns,os) 0),.c (.po 30 0),.c (.rd [] 26 (.row 2 (.int .i64)) (ins)),.c (.sc (.int .i64 (frm))),.c (.sc (.int .i64 (nn))),zz,zz,zz,zz,zz,zz,.c (.ow 9004),zz,.c (.ow 9001),zz,.c (.sc (.int .i64 (frm+(k:Int)))),.c (.ow 9002),.c (.sc (.int .i64 (k'.1))),zz,zz,zz,zz,zz,zz,zz,zz,zz,zz,zz,zz,zz,zz,zz,zz,zz,zz,zz,zz,zz,zz,zz,zz,zz,zz,zz,zz,zz,zz,zz,zz,zz,zz,zz,zz,zz,zz,zz,zz,zz,zz,zz,zz,zz,zz,zz,zz,zz,zz,zz,zz,zz,zz,zz,zz,zz,zz,zz,zz,zz,zz,zz,zz,zz,zz,zz,zz,zz,zz,zz,zz,zz,zz,zz,zz,zz,zz,zz,zz,zz,zz,zz,zz],[(30,.box [.rd [] 26 ((.row 2 (.int .i64))) ((D0 (pi,ts,ns,os) ins frm k (cc,List.replicate os.length [])).1)]),(9004,.row 2 (.int .i64) (E3 ns) []),(9001,.tree 26 (.row 2 (.int .i64)) ((D0 (pi,ts,ns,os) ins frm k (cc,List.replicate os.length [])).2) none),(9002,.row 2 (.int .i64) ((D3 ins (frm+(k:Int))).take k'.1) [])]⟩) (fun k'=>ins.length - k'.1) ⟨0,by simp⟩ ?_ ?_
   ·
    refine oK ?_;simp (maxSteps:=2000000)only[go_sem];all_goals((repeat' refine And.intro ?_ ?_)<;>first|rfl|omega|(congr 1;done)|simp)
   rintro⟨m,hm⟩ K19 hL19
   have htl:((D3 ins (frm+(k:Int))).take m).length=m:=by rw[List.length_take];omega
   have hil4:ins.length≤4:=by omega
   have hset:m < ins.length→(D3 ins (frm+(k:Int))).take m++[(ins.getD m []).getD (Int.toNat (frm+(k:Int))) 0]=(D3 ins (frm+(k:Int))).take (m+1):=fun h=>by rw[←A6J h];exact(J8 (by omega)).symm
   refine oS fun _ hK20=>?_;refine oS fun _ hK21=>?_;refine oW E6 ?_;simp only[go_sem];refine hK21 _ ?_;refine oC rfl ?_ ?_
   ·
    intro c2;refine A2 ?_;simp only[go_sem];refine hK20 _ ?_;refine oS fun _ hK22=>?_;refine A3 ?_;refine oW E6 ?_;simp (maxSteps:=2000000)only[List.nodup_nil,go_sem];repeat(with_reducible first|refine oA ?_|refine And.intro (by first|omega|exact L8 (by omega) (by omega)) ?_)
    refine hK22 _ ?_;refine oW E6 ?_;simp only[go_sem];refine hL19 ⟨m+1,by omega⟩ _ (oK ?_) ?_
    ·
     simp (maxSteps:=2000000)only[go_sem];all_goals((repeat' refine And.intro ?_ ?_)<;>first|rfl|exact wk (by omega)|exact hset (by omega)|(congr 1;done))
    ·
     first|(simp only[];omega)|omega|(simp;omega)
   intro c2;have hbl:(D3 ins (frm+(k:Int))).take m=(D3 ins (frm+(k:Int))):=List.take_of_length_le (by omega)
   refine B6 ?_;simp only[go_sem];refine hK17 _ ?_;refine oS fun _ hK23=>?_;refine oW E6 ?_;simp (maxSteps:=2000000)only[hbl,go_sem];repeat(with_reducible first|refine oA ?_|refine And.intro (by first|exact⟨hP,rfl,hks,hfl,hff⟩|exact⟨hP,hks,hfl,hff⟩) ?_)
   refine hK23 _ ?_;refine oS fun _ hK24=>?_;refine oS fun _ hK25=>?_;refine oW E6 ?_;simp only[go_sem];refine hK25 _ ?_;refine A3 ?_;refine A8 (ι:={ m:Nat // m≤os.length }) (fun k'=>⟨[.c (.pt [] ((.prod (.int .i64) (.prod (.row 26 (.row 2 (.int .i64))) (.prod (.row 67 (.prod (.int .i64) (.prod (.int .i64) (.prod (.int .i64) (.row 2 (.int .i64)))))) (.row 2 (.int .i64)))))) (pi,ts,ns,os) 0),.c (.po 30 0),.c (.rd [] 26 (.row 2 (.int .i64)) (ins)),.c (.sc (.int .i64 (frm))),.c (.sc (.int .i64 (nn))),zz,zz,zz,zz,zz,zz,.c (.ow 9004),zz,.c (.ow 9001),zz,.c (.sc (.int .i64 (frm+(k:Int)))),.c (.ow 9002),zz,.c (.ow 9003),.c (.sc (.int .i64 (k'.1))),zz,zz,zz,zz,zz,zz,zz,zz,zz,zz,zz,zz,zz,zz,zz,zz,zz,zz,zz,zz,zz,zz,zz,zz,zz,zz,zz,zz,zz,zz,zz,zz,zz,zz,zz,zz,zz,zz,zz,zz,zz,zz,zz,zz,zz,zz,zz,zz,zz,zz,zz,zz,zz,zz,zz,zz,zz,zz,zz,zz,zz,zz,zz,zz,zz,zz,zz,zz,zz,zz,zz,zz,zz,zz,zz,zz,zz,zz,zz,zz,zz,zz],[(30,.box [.rd [] 26 ((.row 2 (.int .i64))) ((D0 (pi,ts,ns,os) ins frm k (cc,List.replicate os.length [])).1)]),(9004,.row 2 (.int .i64) (E3 ns) []),(9001,.tree 26 (.row 2 (.int .i64)) (N7 (P8 (D0 (pi,ts,ns,os) ins frm k (cc,List.replicate os.length [])).2 (v8 (pi,ts,ns,os) (T7 (pi,ts,ns,os) (D0 (pi,ts,ns,os) ins frm k (cc,List.replicate os.length [])).1 (D3 ins (frm+(k:Int)))))) (D0 (pi,ts,ns,os) ins frm k (cc,List.replicate os.length [])).2 k'.1) none),(9002,.row 2 (.int .i64) ((D3 ins (frm+(k:Int)))) []),(9003,.row 2 (.int .i64) ((T7 (pi,ts,ns,os) (D0 (pi,ts,ns,os) ins frm k (cc,List.replicate os.length [])).1 (D3 ins (frm+(k:Int))))) [])]⟩) (fun k'=>os.length - k'.1) ⟨0,by simp⟩ ?_ ?_
   ·
    refine oK ?_;simp (maxSteps:=2000000)only[go_sem];all_goals((repeat' refine And.intro ?_ ?_)<;>first|rfl|omega|(congr 1;exact A0i.symm)|(congr 1;done))
   rintro⟨m,hm⟩ K26 hL26
   have hxl:(v8 (pi,ts,ns,os) (T7 (pi,ts,ns,os) (D0 (pi,ts,ns,os) ins frm k (cc,List.replicate os.length [])).1 (D3 ins (frm+(k:Int))))).length=os.length:=A2C (pi,ts,ns,os) _
   have hal:(P8 (D0 (pi,ts,ns,os) ins frm k (cc,List.replicate os.length [])).2 (v8 (pi,ts,ns,os) (T7 (pi,ts,ns,os) (D0 (pi,ts,ns,os) ins frm k (cc,List.replicate os.length [])).1 (D3 ins (frm+(k:Int)))))).length=(D0 (pi,ts,ns,os) ins frm k (cc,List.replicate os.length [])).2.length:=by rw[Y8 (by omega)];omega
   have hbl1:(N7 (P8 (D0 (pi,ts,ns,os) ins frm k (cc,List.replicate os.length [])).2 (v8 (pi,ts,ns,os) (T7 (pi,ts,ns,os) (D0 (pi,ts,ns,os) ins frm k (cc,List.replicate os.length [])).1 (D3 ins (frm+(k:Int)))))) (D0 (pi,ts,ns,os) ins frm k (cc,List.replicate os.length [])).2 m).length=os.length:=by rw[A2F (by omega) (by omega)];omega
   have hbat0:m < os.length→(N7 (P8 (D0 (pi,ts,ns,os) ins frm k (cc,List.replicate os.length [])).2 (v8 (pi,ts,ns,os) (T7 (pi,ts,ns,os) (D0 (pi,ts,ns,os) ins frm k (cc,List.replicate os.length [])).1 (D3 ins (frm+(k:Int)))))) (D0 (pi,ts,ns,os) ins frm k (cc,List.replicate os.length [])).2 m).getD m []=(D0 (pi,ts,ns,os) ins frm k (cc,List.replicate os.length [])).2.getD m []:=fun h=>B0G [] (by omega) (by omega)
   have holn:m < os.length→((D0 (pi,ts,ns,os) ins frm k (cc,List.replicate os.length [])).2.getD m []).length=k:=fun h=>by have:=B3S (p:=(pi,ts,ns,os)) (ins:=ins) (frm:=frm) (s:=cc) (o:=List.replicate os.length []) (m:=0) hF hcc hin (by simp) (by intro i hi;simp[List.getD] at hi ⊢;simp[hi]) k m h;omega
   have hset:m < os.length→(N7 (P8 (D0 (pi,ts,ns,os) ins frm k (cc,List.replicate os.length [])).2 (v8 (pi,ts,ns,os) (T7 (pi,ts,ns,os) (D0 (pi,ts,ns,os) ins frm k (cc,List.replicate os.length [])).1 (D3 ins (frm+(k:Int)))))) (D0 (pi,ts,ns,os) ins frm k (cc,List.replicate os.length [])).2 m).set m ((D0 (pi,ts,ns,os) ins frm k (cc,List.replicate os.length [])).2.getD m []++[(v8 (pi,ts,ns,os) (T7 (pi,ts,ns,os) (D0 (pi,ts,ns,os) ins frm k (cc,List.replicate os.length [])).1 (D3 ins (frm+(k:Int))))).getD m 0])=N7 (P8 (D0 (pi,ts,ns,os) ins frm k (cc,List.replicate os.length [])).2 (v8 (pi,ts,ns,os) (T7 (pi,ts,ns,os) (D0 (pi,ts,ns,os) ins frm k (cc,List.replicate os.length [])).1 (D3 ins (frm+(k:Int)))))) (D0 (pi,ts,ns,os) ins frm k (cc,List.replicate os.length [])).2 (m+1):=fun h=>by rw[←A28 (by omega) (by omega)];exact A2B [] (by omega) (by omega)
   have hvl:(T7 (pi,ts,ns,os) (D0 (pi,ts,ns,os) ins frm k (cc,List.replicate os.length [])).1 (D3 ins (frm+(k:Int)))).length=ns.length:=hvo.1
   have hox:m < os.length→0≤os.getD m 0∧os.getD m 0≤ns.length - 1:=fun h=>O1 (C0 hF).2.2.2.2.2.1 (C6 h)
   have hxa:m < os.length→(v8 (pi,ts,ns,os) (T7 (pi,ts,ns,os) (D0 (pi,ts,ns,os) ins frm k (cc,List.replicate os.length [])).1 (D3 ins (frm+(k:Int))))).getD m 0=(T7 (pi,ts,ns,os) (D0 (pi,ts,ns,os) ins frm k (cc,List.replicate os.length [])).1 (D3 ins (frm+(k:Int)))).getD (Int.toNat (os.getD m 0)) 0:=fun h=>by simp[v8,List.getD,h]
   refine oS fun _ hK27=>?_;refine oS fun _ hK28=>?_;refine oW E6 ?_;simp (maxSteps:=2000000)only[go_sem];repeat(with_reducible refine oA ?_)
   refine hK28 _ ?_;refine oC rfl ?_ ?_
   ·
    intro c3;have hbat:=hbat0 (by omega)
    have holn:=holn (by omega)
    obtain⟨hox1,hox2⟩:=hox (by omega)
    refine A2 ?_;simp only[go_sem];refine hK27 _ ?_;refine oS fun _ hK29=>?_;refine A3 ?_
    refine oR E6
      [[],[],[],[],[2,3],[2,3,4],[],[],[7],[7,8],[7,8,9],[],[7,8,9,10,11],[7,8,9,10,11,12],[6,7,8,9,10,11,12,13],[6,7,8,9,10,11,12,13,14],[6,7,8,9,10,11,12,13,14,15],[2,3,4,5,6,7,8,9,10,11,12,13,14,15,16],[0,1,2,3,4,5,6,7,8,9,10,11,12,13,14,15,16,17],[0,1,2,3,4,5,6,7,8,9,10,11,12,13,14,15,16,17,18]]
      [[1588,1604,1009001],[1588,1604,1009001],[1588],[1588],[1588],[1588],[],[],[],[],[],[],[],[],[],[],[],[],[],[]]
      [[],[],[],[],[],[],[],[],[],[],[],[],[],[],[],[],[1588],[1588,1604,1009001],[],[]] (by kernel_rfl) (by kernel_rfl) (A7 (acc:=[]) ?_)
    simp (maxSteps:=2000000)only[List.nodup_cons,List.nodup_nil,List.not_mem_nil,not_false_eq_true,hbat,go_sem];repeat(with_reducible first|refine oD ?_|refine And.intro (by first|omega) ?_)
    refine hK29 _ ?_;refine oW E6 ?_;simp only[go_sem];refine hL26 ⟨m+1,by omega⟩ _ (oK ?_) ?_
    ·
     simp (maxSteps:=2000000)only[go_sem];all_goals((repeat' refine And.intro ?_ ?_)<;>first|rfl|exact wk (by omega)|(congr 1;rw[←hxa (by omega)];exact hset (by omega))|(congr 1;done))
    ·
     first|(simp only[];omega)|omega|(simp;omega)
   intro c3;refine B6 ?_;simp only[go_sem];refine hK24 _ ?_;refine oW E6 ?_;simp (maxSteps:=2000000)only[go_sem];repeat(with_reducible first|refine oA ?_|refine And.intro (by first|exact⟨hP,hks,hfl,hff,hvo⟩) ?_)
   refine hK15 _ ?_;refine oW E6 ?_;simp only[go_sem];refine hL12 ⟨k+1,by omega⟩ _ ((A5z _ 1700 (by decide)).trans <| oK ?_) ?_
   ·
    simp (maxSteps:=2000000)only[go_sem];all_goals((repeat' refine And.intro ?_ ?_)<;>first|rfl|(rw[H4 (by omega)];omega)|(congr 1;exact A2G (by omega) (by omega))|(congr 1;done))
   ·
    first|(simp only[];omega)|omega|(simp;omega)
  intro c1;refine B6 ?_;simp only[go_sem];refine hK10 _ ?_;refine oS fun _ hK30=>?_;refine oW E6 ?_;simp only[go_sem];refine hK30 _ ?_;refine A0 ?_;simp only[hres,go_sem]
  first
   | exact oG
   | refine ⟨oG, ?_⟩
     have hk3:k=nn.toNat:=by omega
     clear hK1 hK2 hK3 hK4 hK5 hL6 hK7 hK8 hK10 hK11 hL12 hK13 hK14 hK30;subst hk3
     (repeat' refine And.intro ?_ ?_)<;>first|rfl|(congr 1;done)
def A2k:G4:=fun f=>if f=56 then some (.g Z7) else A6R f
theorem A75:B5 Tryz.prog A2k:=A0M B0W (B0 Tryz.func56 rfl (by decide)) E6
attribute [go_sem] A2k Z7
end Go.Proofs.YtenjbehedcegdaaGreat
