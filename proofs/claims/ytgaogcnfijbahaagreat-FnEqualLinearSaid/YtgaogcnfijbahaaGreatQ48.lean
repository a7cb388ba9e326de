/-
  Texts of this claim, joined (part 48). No condition beyond those of the theorems.
-/
import Derived.Test.YtgaogcnfijbahaaGreatQ47
import Derived.Test.YtgaogcnfijbahaaGreatQ37
namespace Go.Proofs.YtgaogcnfijbahaaGreat
open Go.RowKit
set_option linter.unusedSimpArgs false
set_option linter.unusedVariables false
set_option maxRecDepth 100000
set_option maxHeartbeats 16000000
def B0M:E4:=fun f=>match B0i f with
 | some k=>some k
 | none=>l8 f
theorem F8:B4 Tryz.prog B0M:=N2 B5L z9
attribute [go_sem] B0M T0
def A0W:GCon where
  ps:=[.po 0,.val ((.row 26 (.row 2 (.int .i64)))),.val (.int .i64),.val (.int .i64)]
  os:=[.box [.rd ((.prod (.int .i64) (.prod (.row 26 (.row 2 (.int .i64))) (.prod (.row 95 (.prod (.int .i64) (.prod (.int .i64) (.prod (.int .i64) (.row 2 (.int .i64)))))) (.row 2 (.int .i64)))))),.ow 1,.ow 2,.ow 3],.row 2 (.int .i64),.row 2 (.int .i64),.tree 26 (.row 2 (.int .i64))]
  c:=fun x=>B9 x.2.1.1=true∧x.2.2.1=C6 x.2.1.1.2.2.1∧R6 x.2.1.1 x.2.2.2.1∧U3 x.2.1.1 x.2.2.2.2.1∧J9 x.2.1.1 x.1.2.1∧0≤x.1.2.2.1∧0≤x.1.2.2.2.1∧x.1.2.2.1+x.1.2.2.2.1≤1000000
  r:=fun _=>.c (.ow 10)
  o:=fun x=>[(30,.box [.sc (.int .i64 (x.2.1.1.1)),.rd [] 26 ((.row 2 (.int .i64))) (x.2.1.1.2.1),.rd [] 95 ((.prod (.int .i64) (.prod (.int .i64) (.prod (.int .i64) (.row 2 (.int .i64)))))) (x.2.1.1.2.2.1),.rd [] 2 (.int .i64) (x.2.1.1.2.2.2),.ow 31,.ow 32,.ow 33]),(31,.row 2 (.int .i64) (x.2.2.1) []),(32,.row 2 (.int .i64) (B5v x.2.1.1 x.1.2.1 x.1.2.2.1 x.2.2.2.1 (x.2.2.2.2.1,List.replicate x.2.1.1.2.2.2.length []) (Int.toNat x.1.2.2.2.1)) []),(33,.tree 26 (.row 2 (.int .i64)) ((C2 x.2.1.1 x.1.2.1 x.1.2.2.1 (Int.toNat x.1.2.2.2.1) (x.2.2.2.2.1,List.replicate x.2.1.1.2.2.2.length [])).1) none),(10,.tree 26 (.row 2 (.int .i64)) ((C2 x.2.1.1 x.1.2.1 x.1.2.2.1 (Int.toNat x.1.2.2.2.1) (x.2.2.2.2.1,List.replicate x.2.1.1.2.2.2.length [])).2) none)]
  ok:=by
    rintro⟨⟨_,(ins:List (List Int)),(frm:Int),(nn:Int),_⟩,⟨⟨⟨(pi:Int),(ts:List (List Int)),(ns:List A6),(os:List Int)⟩,_⟩,(oo:List Int),(vv:List Int),(cc:List (List Int)),_⟩⟩
    exact⟨rfl,rfl,by decide⟩
theorem B7F:Z2 Tryz.prog 92 A0W:=by
  refine E1 Tryz.func92 rfl ?_
  have hres:Tryz.f92.results.toList=[.tmp 8]:=rfl
  rintro⟨⟨_,(ins:List (List Int)),(frm:Int),(nn:Int),_⟩,⟨⟨⟨(pi:Int),(ts:List (List Int)),(ns:List A6),(os:List Int)⟩,_⟩,(oo:List Int),(vv:List Int),(cc:List (List Int)),_⟩⟩ hc hL hO
  simp only[A0W,go_sem] at hL
  simp only[A0W,go_sem] at hO
  simp only[A0W,St.init,St.initG,Tryz.ntmps92,go_sem] 
  obtain⟨hP,hoo,hvv,hcc,hin,hfr,hnn,hfn⟩:=(show B9 (pi,ts,ns,os)=true∧oo=C6 (pi,ts,ns,os).2.2.1∧R6 (pi,ts,ns,os) vv∧U3 (pi,ts,ns,os) cc∧J9 (pi,ts,ns,os) ins∧0≤frm∧0≤nn∧frm+nn≤1000000 from hc)
  have hoo:oo=C6 ns:=hoo
  subst hoo;obtain⟨hF,hol⟩:=B8 hP
  have hn24:ns.length≤24:=(A8 hF).1
  have ho4:os.length≤4:=(A8 hF).2.1
  have hpi0:0≤pi∧pi≤4:=⟨(A8 hF).2.2.2.1,(A8 hF).2.2.2.2.1⟩
  have hwn:IntKind.i64.wrap (frm+nn)=frm+nn:=F3 (by omega)
  have hzc:J3 pi 0 1099511627776=true:=J8 (by omega) (by omega)
  refine oS fun _ hK1=>?_;refine oW F8 ?_;simp only[go_sem];refine hK1 _ ?_;refine oS fun _ hK2=>?_;refine oW F8 ?_;simp (maxSteps:=2000000)only[List.nodup_nil,go_sem];repeat(with_reducible refine oA ?_)
  refine hK2 _ ?_;refine oS fun _ hK3=>?_;refine oW F8 ?_;simp (maxSteps:=2000000)only[go_sem];repeat(with_reducible first|refine oA ?_|refine And.intro (by first|exact hzc) ?_)
  refine hK3 _ ?_;refine oS fun _ hK4=>?_;refine oS fun _ hK5=>?_;refine oW F8 ?_;simp only[go_sem];refine hK5 _ ?_;refine A1 ?_;refine A7 (ι:={ k:Nat // k≤nn.toNat }) (fun k=>⟨[.c (.po 30 0),.c (.rd [] 26 (.row 2 (.int .i64)) (ins)),.c (.sc (.int .i64 (frm))),.c (.sc (.int .i64 (nn))),zz,zz,zz,zz,zz,.c (.ow 9001),.c (.ow 9002),.c (.sc (.int .i64 (frm+(k.1:Int)))),zz,zz,zz,zz,zz,zz,zz,zz,zz,zz,zz,zz,zz,zz,zz,zz,zz,zz,zz,zz,zz,zz,zz,zz,zz,zz,zz,zz,zz,zz,zz,zz,zz,zz,zz,zz,zz,zz,zz,zz,zz,zz,zz,zz,zz,zz,zz,zz,zz,zz,zz,zz,zz,zz,zz,zz,zz,zz,zz,zz,zz,zz],[(30,.box [.sc (.int .i64 (pi)),.rd [] 26 ((.row 2 (.int .i64))) (ts),.rd [] 95 ((.prod (.int .i64) (.prod (.int .i64) (.prod (.int .i64) (.row 2 (.int .i64)))))) (ns),.rd [] 2 (.int .i64) (os),.ow 31,.ow 32,.ow 33]),(31,.row 2 (.int .i64) (C6 ns) []),(32,.row 2 (.int .i64) ((B5v (pi,ts,ns,os) ins frm vv (cc,List.replicate os.length []) k.1)) []),(33,.tree 26 (.row 2 (.int .i64)) ((C2 (pi,ts,ns,os) ins frm k.1 (cc,List.replicate os.length [])).1) none),(9001,.tree 26 (.row 2 (.int .i64)) ((C2 (pi,ts,ns,os) ins frm k.1 (cc,List.replicate os.length [])).2) none),(9002,.row 2 (.int .i64) ((A6L (pi,ts,ns,os) ins frm k.1)) [])]⟩) (fun k=>nn.toNat - k.1) ⟨0,by simp⟩ ?_ ?_
  ·
   refine oK ?_;simp (maxSteps:=2000000)only[go_sem];all_goals((repeat' refine And.intro ?_ ?_)<;>first|rfl|omega|(congr 1;done)|simp)
  rintro⟨k,hk⟩ K6 hL6
  obtain⟨hks,hko⟩:=A0y (p:=(pi,ts,ns,os)) (ins:=ins) (frm:=frm) (s:=cc) (o:=List.replicate os.length []) hF hcc hin (by simp) k
  obtain⟨hfl,hff⟩:=A1B (p:=(pi,ts,ns,os)) hin (frm+(k:Int))
  have hlv:=C3h (p:=(pi,ts,ns,os)) (ins:=ins) (frm:=frm) (vals:=vv) (s:=cc) (o:=List.replicate os.length []) hF hcc hin (by simp) hvv k
  have hlf:=C19 (p:=(pi,ts,ns,os)) (ins:=ins) (frm:=frm) hin k
  have hfal:(C7 ins (frm+(k:Int))).length=ins.length:=by simp[C7]
  have hko:(C2 (pi,ts,ns,os) ins frm k (cc,List.replicate os.length [])).2.length=os.length:=hko
  have hil:(ins.length:Int)=pi:=hin.1
  refine oS fun _ hK7=>?_;refine oS fun _ hK8=>?_;refine oW F8 ?_;simp (maxSteps:=2000000)only[hwn,go_sem];refine hK8 _ ?_;refine oC rfl ?_ ?_
  ·
   intro c0;refine A2 ?_;simp only[go_sem];refine hK7 _ ?_;refine oS fun _ hK9=>?_;refine A1 ?_;refine oS fun _ hK10=>?_;refine oS fun _ hK11=>?_;refine oW F8 ?_;simp only[go_sem];refine hK11 _ ?_;refine A1 ?_;refine A7 (ι:={ m:Nat // m≤ins.length }) (fun k'=>⟨[.c (.po 30 0),.c (.rd [] 26 (.row 2 (.int .i64)) (ins)),.c (.sc (.int .i64 (frm))),.c (.sc (.int .i64 (nn))),zz,zz,zz,zz,zz,.c (.ow 9001),.c (.ow 9002),.c (.sc (.int .i64 (frm+(k:Int)))),zz,zz,zz,zz,zz,zz,zz,zz,zz,zz,zz,zz,zz,zz,zz,zz,zz,zz,zz,zz,zz,zz,zz,zz,zz,.c (.sc (.int .i64 (ins.length))),.c (.sc (.int .i64 (k'.1))),zz,zz,zz,zz,zz,zz,zz,zz,zz,zz,zz,zz,zz,zz,zz,zz,zz,zz,zz,zz,zz,zz,zz,zz,zz,zz,zz,zz,zz,zz,zz,zz,zz,zz,zz],[(30,.box [.sc (.int .i64 (pi)),.rd [] 26 ((.row 2 (.int .i64))) (ts),.rd [] 95 ((.prod (.int .i64) (.prod (.int .i64) (.prod (.int .i64) (.row 2 (.int .i64)))))) (ns),.rd [] 2 (.int .i64) (os),.ow 31,.ow 32,.ow 33]),(31,.row 2 (.int .i64) (C6 ns) []),(32,.row 2 (.int .i64) ((B5v (pi,ts,ns,os) ins frm vv (cc,List.replicate os.length []) k)) []),(33,.tree 26 (.row 2 (.int .i64)) ((C2 (pi,ts,ns,os) ins frm k (cc,List.replicate os.length [])).1) none),(9001,.tree 26 (.row 2 (.int .i64)) ((C2 (pi,ts,ns,os) ins frm k (cc,List.replicate os.length [])).2) none),(9002,.row 2 (.int .i64) (V0 (C7 ins (frm+(k:Int))) (A6L (pi,ts,ns,os) ins frm k) k'.1) [])]⟩) (fun k'=>ins.length - k'.1) ⟨0,by simp⟩ ?_ ?_
   ·
    refine oK ?_;simp (maxSteps:=2000000)only[go_sem];all_goals((repeat' refine And.intro ?_ ?_)<;>first|rfl|omega|exact A54.symm|exact congrArg _ hlf|(rw[hlf])|(congr 1;done))
   rintro⟨m,hm⟩ K12 hL12
   have hbl0:(V0 (C7 ins (frm+(k:Int))) (A6L (pi,ts,ns,os) ins frm k) m).length=ins.length:=by rw[A7N (by omega) (by omega)];exact hfal
   have hset:m < ins.length→(V0 (C7 ins (frm+(k:Int))) (A6L (pi,ts,ns,os) ins frm k) m).set m ((ins.getD m []).getD (Int.toNat (frm+(k:Int))) 0)=V0 (C7 ins (frm+(k:Int))) (A6L (pi,ts,ns,os) ins frm k) (m+1):=fun h=>by rw[←A2l h];exact A78 0 (by omega) (by omega)
   refine oS fun _ hK13=>?_;refine oW F8 ?_;simp only[go_sem];refine hK13 _ ?_;refine oS fun _ hK14=>?_;refine oC rfl ?_ ?_
   ·
    intro c1;refine A2 ?_;simp only[go_sem];refine hK14 _ ?_;refine oS fun _ hK15=>?_;refine A1 ?_;refine oS fun _ hK16=>?_;refine oW F8 ?_;simp only[go_sem];refine hK16 _ ?_;refine oW F8 ?_;simp (maxSteps:=2000000)only[go_sem];repeat(with_reducible first|refine oA ?_|refine And.intro (by first|exact J8 (by omega) (by omega)) ?_)
    refine hK15 _ ?_;refine oW F8 ?_;simp only[go_sem];refine hL12 ⟨m+1,by omega⟩ _ (oK ?_) ?_
    ·
     simp (maxSteps:=2000000)only[go_sem];all_goals((repeat' refine And.intro ?_ ?_)<;>first|rfl|exact wk (by omega)|exact hset (by omega)|(congr 1;done))
    ·
     first|(simp only[];omega)|omega|(simp;omega)
   intro c1;have hbl:V0 (C7 ins (frm+(k:Int))) (A6L (pi,ts,ns,os) ins frm k) m=(C7 ins (frm+(k:Int))):=A72 (by omega) (by omega)
   have hpl:A7v (pi,ts,ns,os) (B5v (pi,ts,ns,os) ins frm vv (cc,List.replicate os.length []) k) (C2 (pi,ts,ns,os) ins frm k (cc,List.replicate os.length [])).1 (C7 ins (frm+(k:Int)))=((E8 (pi,ts,ns,os) (C2 (pi,ts,ns,os) ins frm k (cc,List.replicate os.length [])).1 (C7 ins (frm+(k:Int)))),(S6 (pi,ts,ns,os) (C2 (pi,ts,ns,os) ins frm k (cc,List.replicate os.length [])).1 (C7 ins (frm+(k:Int))) (E8 (pi,ts,ns,os) (C2 (pi,ts,ns,os) ins frm k (cc,List.replicate os.length [])).1 (C7 ins (frm+(k:Int)))))):=B8H (p:=(pi,ts,ns,os)) hP hlv.1 hks.1
   have hoc:os.length≤1000∧N9 (E8 (pi,ts,ns,os) (C2 (pi,ts,ns,os) ins frm k (cc,List.replicate os.length [])).1 (C7 ins (frm+(k:Int)))).length os=true:=⟨by omega,by rw[(a6 (p:=(pi,ts,ns,os)) hF hks hff).1];exact(A8 hF).2.2.2.2.2.1⟩
   refine B6 ?_;simp only[go_sem];refine hK10 _ ?_;refine oS fun _ hK17=>?_;refine oW F8 ?_;simp only[hbl,hpl,go_sem];repeat(with_reducible first|refine oA ?_|refine And.intro (by first|exact⟨hP,rfl,hlv,hks,hfl,hff⟩|exact⟨hP,hlv,hks,hfl,hff⟩) ?_)
   refine hK17 _ ?_;refine oS fun _ hK18=>?_;refine oW F8 ?_;simp only[go_sem];repeat(with_reducible first|refine oA ?_|refine And.intro (by first|exact hoc) ?_)
   refine hK18 _ ?_;refine A1 ?_;refine A7 (ι:={ m:Nat // m≤os.length }) (fun k'=>⟨[.c (.po 30 0),.c (.rd [] 26 (.row 2 (.int .i64)) (ins)),.c (.sc (.int .i64 (frm))),.c (.sc (.int .i64 (nn))),zz,zz,zz,zz,zz,.c (.ow 9001),.c (.ow 9002),.c (.sc (.int .i64 (frm+(k:Int)))),zz,zz,zz,zz,zz,zz,zz,zz,zz,zz,zz,zz,zz,zz,zz,zz,zz,zz,zz,zz,zz,zz,zz,zz,zz,zz,zz,zz,zz,zz,zz,zz,zz,zz,zz,zz,zz,zz,zz,zz,zz,zz,zz,.c (.ow 9003),.c (.sc (.int .i64 (os.length))),.c (.sc (.int .i64 (k'.1))),zz,zz,zz,zz,zz,zz,zz,zz,zz,zz,zz,zz,zz,zz,zz,zz],[(30,.box [.sc (.int .i64 (pi)),.rd [] 26 ((.row 2 (.int .i64))) (ts),.rd [] 95 ((.prod (.int .i64) (.prod (.int .i64) (.prod (.int .i64) (.row 2 (.int .i64)))))) (ns),.rd [] 2 (.int .i64) (os),.ow 31,.ow 32,.ow 33]),(31,.row 2 (.int .i64) (C6 ns) []),(32,.row 2 (.int .i64) ((E8 (pi,ts,ns,os) (C2 (pi,ts,ns,os) ins frm k (cc,List.replicate os.length [])).1 (C7 ins (frm+(k:Int))))) []),(33,.tree 26 (.row 2 (.int .i64)) ((S6 (pi,ts,ns,os) (C2 (pi,ts,ns,os) ins frm k (cc,List.replicate os.length [])).1 (C7 ins (frm+(k:Int))) (E8 (pi,ts,ns,os) (C2 (pi,ts,ns,os) ins frm k (cc,List.replicate os.length [])).1 (C7 ins (frm+(k:Int)))))) none),(9001,.tree 26 (.row 2 (.int .i64)) (V0 (W3 (C2 (pi,ts,ns,os) ins frm k (cc,List.replicate os.length [])).2 (J4 (pi,ts,ns,os) (E8 (pi,ts,ns,os) (C2 (pi,ts,ns,os) ins frm k (cc,List.replicate os.length [])).1 (C7 ins (frm+(k:Int)))))) (C2 (pi,ts,ns,os) ins frm k (cc,List.replicate os.length [])).2 k'.1) none),(9002,.row 2 (.int .i64) ((C7 ins (frm+(k:Int)))) []),(9003,.row 2 (.int .i64) ((J4 (pi,ts,ns,os) (E8 (pi,ts,ns,os) (C2 (pi,ts,ns,os) ins frm k (cc,List.replicate os.length [])).1 (C7 ins (frm+(k:Int)))))) [])]⟩) (fun k'=>os.length - k'.1) ⟨0,by simp⟩ ?_ ?_
   ·
    refine oK ?_;simp (maxSteps:=2000000)only[go_sem];all_goals((repeat' refine And.intro ?_ ?_)<;>first|rfl|omega|(congr 1;exact A54.symm)|exact congrArg _ (U8 (pi,ts,ns,os) _)|(congr 1;done))
   rintro⟨m,hm⟩ K19 hL19
   have hxl:(J4 (pi,ts,ns,os) (E8 (pi,ts,ns,os) (C2 (pi,ts,ns,os) ins frm k (cc,List.replicate os.length [])).1 (C7 ins (frm+(k:Int))))).length=os.length:=U8 (pi,ts,ns,os) _
   have hal:(W3 (C2 (pi,ts,ns,os) ins frm k (cc,List.replicate os.length [])).2 (J4 (pi,ts,ns,os) (E8 (pi,ts,ns,os) (C2 (pi,ts,ns,os) ins frm k (cc,List.replicate os.length [])).1 (C7 ins (frm+(k:Int)))))).length=(C2 (pi,ts,ns,os) ins frm k (cc,List.replicate os.length [])).2.length:=by rw[A5X (by omega)];omega
   have hbl1:(V0 (W3 (C2 (pi,ts,ns,os) ins frm k (cc,List.replicate os.length [])).2 (J4 (pi,ts,ns,os) (E8 (pi,ts,ns,os) (C2 (pi,ts,ns,os) ins frm k (cc,List.replicate os.length [])).1 (C7 ins (frm+(k:Int)))))) (C2 (pi,ts,ns,os) ins frm k (cc,List.replicate os.length [])).2 m).length=os.length:=by rw[A7N (by omega) (by omega)];omega
   have hbat0:m < os.length→(V0 (W3 (C2 (pi,ts,ns,os) ins frm k (cc,List.replicate os.length [])).2 (J4 (pi,ts,ns,os) (E8 (pi,ts,ns,os) (C2 (pi,ts,ns,os) ins frm k (cc,List.replicate os.length [])).1 (C7 ins (frm+(k:Int)))))) (C2 (pi,ts,ns,os) ins frm k (cc,List.replicate os.length [])).2 m).getD m []=(C2 (pi,ts,ns,os) ins frm k (cc,List.replicate os.length [])).2.getD m []:=fun h=>B5h [] (by omega) (by omega)
   have holn:m < os.length→((C2 (pi,ts,ns,os) ins frm k (cc,List.replicate os.length [])).2.getD m []).length=k:=fun h=>by have:=A4S (p:=(pi,ts,ns,os)) (ins:=ins) (frm:=frm) (s:=cc) (o:=List.replicate os.length []) (m:=0) hF hcc hin (by simp) (by intro i hi;simp[List.getD] at hi ⊢;simp[hi]) k m h;omega
   have hset:m < os.length→(V0 (W3 (C2 (pi,ts,ns,os) ins frm k (cc,List.replicate os.length [])).2 (J4 (pi,ts,ns,os) (E8 (pi,ts,ns,os) (C2 (pi,ts,ns,os) ins frm k (cc,List.replicate os.length [])).1 (C7 ins (frm+(k:Int)))))) (C2 (pi,ts,ns,os) ins frm k (cc,List.replicate os.length [])).2 m).set m ((C2 (pi,ts,ns,os) ins frm k (cc,List.replicate os.length [])).2.getD m []++[(J4 (pi,ts,ns,os) (E8 (pi,ts,ns,os) (C2 (pi,ts,ns,os) ins frm k (cc,List.replicate os.length [])).1 (C7 ins (frm+(k:Int))))).getD m 0])=V0 (W3 (C2 (pi,ts,ns,os) ins frm k (cc,List.replicate os.length [])).2 (J4 (pi,ts,ns,os) (E8 (pi,ts,ns,os) (C2 (pi,ts,ns,os) ins frm k (cc,List.replicate os.length [])).1 (C7 ins (frm+(k:Int)))))) (C2 (pi,ts,ns,os) ins frm k (cc,List.replicate os.length [])).2 (m+1):=fun h=>by rw[←A4H (by omega) (by omega)];exact A78 [] (by omega) (by omega)
   refine oS fun _ hK20=>?_;refine oW F8 ?_;simp only[go_sem];refine hK20 _ ?_;refine oS fun _ hK21=>?_;refine oC rfl ?_ ?_
   ·
    intro c2;have hbat:=hbat0 (by omega)
    have holn:=holn (by omega)
    refine A2 ?_;simp only[go_sem];refine hK21 _ ?_;refine oS fun _ hK22=>?_;refine A1 ?_;refine oS fun _ hK23=>?_;refine oW F8 ?_;simp (maxSteps:=2000000)only[go_sem];repeat(with_reducible refine oA ?_)
    refine hK23 _ ?_;refine oW F8 ?_;simp (maxSteps:=2000000)only[List.nodup_cons,List.nodup_nil,List.not_mem_nil,not_false_eq_true,hbat,go_sem];repeat(with_reducible first|refine oA ?_|refine And.intro (by first|omega) ?_)
    refine hK22 _ ?_;refine oW F8 ?_;simp only[go_sem];refine hL19 ⟨m+1,by omega⟩ _ (oK ?_) ?_
    ·
     simp (maxSteps:=2000000)only[go_sem];all_goals((repeat' refine And.intro ?_ ?_)<;>first|rfl|exact wk (by omega)|(congr 1;exact hset (by omega))|(congr 1;done))
    ·
     first|(simp only[];omega)|omega|(simp;omega)
   intro c2;refine B6 ?_;simp only[go_sem];refine hK9 _ ?_;refine oW F8 ?_;simp only[go_sem];refine hL6 ⟨k+1,by omega⟩ _ (oK ?_) ?_
   ·
    simp (maxSteps:=2000000)only[go_sem];all_goals((repeat' refine And.intro ?_ ?_)<;>first|rfl|(rw[F3 (by omega)];omega)|(congr 1;exact A72 (by simpa [W3] using hal) (by omega))|(congr 1;done))
   ·
    first|(simp only[];omega)|omega|(simp;omega)
  intro c0;refine B6 ?_;simp only[go_sem];refine hK4 _ ?_;refine oS fun _ hK24=>?_;refine oW F8 ?_;simp only[go_sem];refine hK24 _ ?_;refine A0 ?_;simp only[hres,go_sem]
  first
   | exact oG
   | refine ⟨oG, ?_⟩
     have hk3:k=nn.toNat:=by omega
     clear hK1 hK2 hK3 hK4 hK5 hL6 hK7 hK8 hK24;subst hk3
     (repeat' refine And.intro ?_ ?_)<;>first|rfl|(congr 1;done)
def A7V:E4:=fun f=>if f=92 then some (.g A0W) else B0M f
theorem B33:B4 Tryz.prog A7V:=m8 B7F (B0 Tryz.func92 rfl (by decide)) F8
attribute [go_sem] A7V A0W
end Go.Proofs.YtgaogcnfijbahaaGreat
