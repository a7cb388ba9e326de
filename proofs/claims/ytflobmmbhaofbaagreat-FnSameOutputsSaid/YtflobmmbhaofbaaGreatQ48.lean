/-
  Texts of this claim, joined (part 48). No condition beyond those of the theorems.
-/
import Derived.Test.YtflobmmbhaofbaaGreatQ47
import Derived.Test.YtflobmmbhaofbaaGreatQ17
import Derived.Test.YtflobmmbhaofbaaGreatQ02
namespace Go.Proofs.YtflobmmbhaofbaaGreat
open Go.RowKit
set_option linter.unusedSimpArgs false
set_option linter.unusedVariables false
set_option maxRecDepth 100000
set_option maxHeartbeats 16000000
def A7j:F8:=fun f=>match w7 f with
 | some k=>some k
 | none=>A6P f
theorem B3I:B8 Tryz.prog A7j:=T3 J8 B1x
attribute [go_sem] A7j T0
def A9K:F8:=fun f=>match A7j f with
 | some k=>some k
 | none=>A3D f
theorem B2n:B8 Tryz.prog A9K:=T3 B3I A2R
attribute [go_sem] A9K T0
def A9H:F8:=fun f=>match A9K f with
 | some k=>some k
 | none=>y9 f
theorem F5:B8 Tryz.prog A9H:=T3 B2n A2I
attribute [go_sem] A9H T0
def n4:GCon where
  ps:=[.ptr ((.prod (.int .i64) (.prod (.row 26 (.row 2 (.int .i64))) (.prod (.row 56 (.prod (.int .i64) (.prod (.int .i64) (.prod (.int .i64) (.row 2 (.int .i64)))))) (.row 2 (.int .i64)))))),.po 0,.val ((.row 26 (.row 2 (.int .i64)))),.val (.int .i64),.val (.int .i64)]
  os:=[.box [.rd ((.row 26 (.row 2 (.int .i64))))]]
  c:=fun x=>C7 x.1.1=true∧A3g x.1.1 x.2.1.1∧d9 x.1.1 x.1.2.2.1∧0≤x.1.2.2.2.1∧0≤x.1.2.2.2.2.1∧x.1.2.2.2.1+x.1.2.2.2.2.1≤1000000
  r:=fun _=>.c (.ow 10)
  o:=fun x=>[(30,.box [.rd [] 26 ((.row 2 (.int .i64))) ((E7 x.1.1 x.1.2.2.1 x.1.2.2.2.1 (Int.toNat x.1.2.2.2.2.1) (x.2.1.1,List.replicate x.1.1.2.2.2.length [])).1)]),(10,.tree 26 (.row 2 (.int .i64)) ((E7 x.1.1 x.1.2.2.1 x.1.2.2.2.1 (Int.toNat x.1.2.2.2.2.1) (x.2.1.1,List.replicate x.1.1.2.2.2.length [])).2) none)]
  ok:=by
    rintro⟨⟨⟨(pi:Int),(ts:List (List Int)),(ns:List A4),(os:List Int)⟩,_,(ins:List (List Int)),(frm:Int),(nn:Int),_⟩,⟨⟨(cc:List (List Int)),_⟩,_⟩⟩
    exact⟨rfl,rfl,by decide⟩
theorem B3K:W3 Tryz.prog 48 n4:=by
  refine D8 Tryz.func48 rfl ?_
  have hres:Tryz.f48.results.toList=[.tmp 10]:=rfl
  rintro⟨⟨⟨(pi:Int),(ts:List (List Int)),(ns:List A4),(os:List Int)⟩,_,(ins:List (List Int)),(frm:Int),(nn:Int),_⟩,⟨⟨(cc:List (List Int)),_⟩,_⟩⟩ hc hL hO
  simp only[n4,go_sem] at hL
  simp only[n4,go_sem] at hO
  simp only[n4,St.init,St.initG,Tryz.ntmps48,go_sem] 
  obtain⟨hP,hcc,hin,hfr,hnn,hfn⟩:=(show C7 (pi,ts,ns,os)=true∧A3g (pi,ts,ns,os) cc∧d9 (pi,ts,ns,os) ins∧0≤frm∧0≤nn∧frm+nn≤1000000 from hc)
  obtain⟨hF,hol⟩:=A9 hP
  have hn24:ns.length≤24:=(A8 hF).1
  have ho4:os.length≤4:=(A8 hF).2.1
  have hwn:IntKind.i64.wrap (frm+nn)=frm+nn:=G9 (by omega)
  have hor:B4I ns=(O4 ns,true):=C3n (A9 hP).2
  have hpi0:0≤pi∧pi≤4:=⟨(A8 hF).2.2.2.1,(A8 hF).2.2.2.2.1⟩
  refine oS fun _ hK1=>?_;refine oW F5 ?_;simp only[go_sem];refine hK1 _ ?_;refine oS fun _ hK2=>?_;refine oW F5 ?_;simp (maxSteps:=2000000)only[hor,go_sem];repeat(with_reducible first|refine oA ?_|refine And.intro (by first|exact hF) ?_)
  refine hK2 _ ?_;refine oS fun _ hK3=>?_;refine oW F5 ?_;simp only[List.nodup_nil,go_sem];repeat(with_reducible refine oA ?_)
  refine hK3 _ ?_;refine oS fun _ hK4=>?_;refine oS fun _ hK5=>?_;refine oW F5 ?_;simp only[go_sem];refine hK5 _ ?_;refine A5 ?_;refine B4 (ι:={ k:Nat // k≤os.length }) (fun k=>⟨[.c (.pt [] ((.prod (.int .i64) (.prod (.row 26 (.row 2 (.int .i64))) (.prod (.row 56 (.prod (.int .i64) (.prod (.int .i64) (.prod (.int .i64) (.row 2 (.int .i64)))))) (.row 2 (.int .i64)))))) (pi,ts,ns,os) 0),.c (.po 30 0),.c (.rd [] 26 (.row 2 (.int .i64)) (ins)),.c (.sc (.int .i64 (frm))),.c (.sc (.int .i64 (nn))),zz,zz,zz,zz,zz,zz,.c (.ow 9004),zz,.c (.ow 9001),.c (.sc (.int .i64 (k.1))),zz,zz,zz,zz,zz,zz,zz,zz,zz,zz,zz,zz,zz,zz,zz,zz,zz,zz,zz,zz,zz,zz,zz,zz,zz,zz,zz,zz,zz,zz,zz,zz,zz,zz,zz,zz,zz,zz,zz,zz,zz,zz,zz,zz,zz,zz,zz,zz,zz,zz,zz,zz,zz,zz,zz,zz,zz,zz,zz,zz,zz,zz,zz,zz,zz,zz,zz,zz,zz,zz,zz,zz,zz,zz,zz,zz,zz,zz,zz,zz,zz,zz,zz,zz,zz,zz,zz],[(30,.box [.rd [] 26 ((.row 2 (.int .i64))) (cc)]),(9004,.row 2 (.int .i64) (O4 ns) []),(9001,.tree 26 (.row 2 (.int .i64)) (List.replicate k.1 []) none)]⟩) (fun k=>os.length - k.1) ⟨0,by simp⟩ ?_ ?_
  ·
   refine oK ?_;simp (maxSteps:=2000000)only[go_sem];all_goals((repeat' refine And.intro ?_ ?_)<;>first|rfl|omega|(congr 1;done)|simp)
  rintro⟨k,hk⟩ K6 hL6
  have hrl:(List.replicate k ([]:List Int)).length=k:=List.length_replicate
  refine oS fun _ hK7=>?_;refine oS fun _ hK8=>?_;refine oW F5 ?_;simp (maxSteps:=2000000)only[go_sem];repeat(with_reducible refine oA ?_)
  refine hK8 _ ?_;refine oC rfl ?_ ?_
  ·
   intro c0;refine A3 ?_;simp only[go_sem];refine hK7 _ ?_;refine oS fun _ hK9=>?_;refine A5 ?_;refine oW F5 ?_;simp (maxSteps:=2000000)only[List.nodup_cons,List.nodup_nil,List.not_mem_nil,not_false_eq_true,go_sem];repeat(with_reducible refine oA ?_)
   refine hK9 _ ?_;refine oW F5 ?_;simp only[go_sem];refine hL6 ⟨k+1,by omega⟩ _ (oK ?_) ?_
   ·
    simp (maxSteps:=2000000)only[go_sem];all_goals((repeat' refine And.intro ?_ ?_)<;>first|rfl|exact wk (by omega)|(congr 1;exact List.replicate_succ'.symm)|(congr 1;done))
   ·
    first|(simp only[];omega)|omega|(simp;omega)
  intro c0;refine C2 ?_;simp only[go_sem];refine hK4 _ ?_;refine oS fun _ hK10=>?_;refine oS fun _ hK11=>?_;refine oW F5 ?_;simp only[go_sem];refine hK11 _ ?_;refine A5 ?_;refine B4 (ι:={ k:Nat // k≤nn.toNat }) (fun k=>⟨[.c (.pt [] ((.prod (.int .i64) (.prod (.row 26 (.row 2 (.int .i64))) (.prod (.row 56 (.prod (.int .i64) (.prod (.int .i64) (.prod (.int .i64) (.row 2 (.int .i64)))))) (.row 2 (.int .i64)))))) (pi,ts,ns,os) 0),.c (.po 30 0),.c (.rd [] 26 (.row 2 (.int .i64)) (ins)),.c (.sc (.int .i64 (frm))),.c (.sc (.int .i64 (nn))),zz,zz,zz,zz,zz,zz,.c (.ow 9004),zz,.c (.ow 9001),zz,.c (.sc (.int .i64 (frm+(k.1:Int)))),zz,zz,zz,zz,zz,zz,zz,zz,zz,zz,zz,zz,zz,zz,zz,zz,zz,zz,zz,zz,zz,zz,zz,zz,zz,zz,zz,zz,zz,zz,zz,zz,zz,zz,zz,zz,zz,zz,zz,zz,zz,zz,zz,zz,zz,zz,zz,zz,zz,zz,zz,zz,zz,zz,zz,zz,zz,zz,zz,zz,zz,zz,zz,zz,zz,zz,zz,zz,zz,zz,zz,zz,zz,zz,zz,zz,zz,zz,zz,zz,zz,zz,zz,zz,zz,zz],[(30,.box [.rd [] 26 ((.row 2 (.int .i64))) ((E7 (pi,ts,ns,os) ins frm k.1 (cc,List.replicate os.length [])).1)]),(9004,.row 2 (.int .i64) (O4 ns) []),(9001,.tree 26 (.row 2 (.int .i64)) ((E7 (pi,ts,ns,os) ins frm k.1 (cc,List.replicate os.length [])).2) none)]⟩) (fun k=>nn.toNat - k.1) ⟨0,by simp⟩ ?_ ?_
  ·
   refine oK ?_;simp (maxSteps:=2000000)only[go_sem];all_goals((repeat' refine And.intro ?_ ?_)<;>first|rfl|omega|(congr 1;exact congrArg (fun z=>List.replicate z _) (by omega))|(congr 1;done)|simp)
  rintro⟨k,hk⟩ K12 hL12
  obtain⟨hks,hko⟩:=A5R (p:=(pi,ts,ns,os)) (ins:=ins) (frm:=frm) (s:=cc) (o:=List.replicate os.length []) hF hcc hin (by simp) k
  obtain⟨hfl,hff⟩:=A7s (p:=(pi,ts,ns,os)) hin (frm+(k:Int))
  have hfal:(H6 ins (frm+(k:Int))).length=ins.length:=by simp[H6]
  have hko:(E7 (pi,ts,ns,os) ins frm k (cc,List.replicate os.length [])).2.length=os.length:=hko
  have hil:(ins.length:Int)=pi:=hin.1
  have hvo:=B0E (p:=(pi,ts,ns,os)) (s:=(E7 (pi,ts,ns,os) ins frm k (cc,List.replicate os.length [])).1) (fr:=(H6 ins (frm+(k:Int)))) hF hks hff
  refine oS fun _ hK13=>?_;refine oS fun _ hK14=>?_;refine oW F5 ?_;simp (maxSteps:=2000000)only[hwn,go_sem];refine hK14 _ ?_;refine oC rfl ?_ ?_
  ·
   intro c1;refine A3 ?_;simp only[go_sem];refine hK13 _ ?_;refine oS fun _ hK15=>?_;refine A5 ?_;refine oS fun _ hK16=>?_;refine oW F5 ?_;simp only[List.nodup_nil,go_sem];repeat(with_reducible refine oA ?_)
   refine hK16 _ ?_;refine oS fun _ hK17=>?_;refine oS fun _ hK18=>?_;refine oW F5 ?_;simp only[go_sem];refine hK18 _ ?_;refine A5 ?_;refine B4 (ι:={ m:Nat // m≤ins.length }) (fun k'=>⟨[.c (.pt [] ((.prod (.int .i64) (.prod (.row 26 (.row 2 (.int .i64))) (.prod (.row 56 (.prod (.int .i64) (.prod (.int .i64) (.prod (.int .i64) (.row 2 (.int .i64)))))) (.row 2 (.int .i64)))))) (pi,ts,ns,os) 0),.c (.po 30 0),.c (.rd [] 26 (.row 2 (.int .i64)) (ins)),.c (.sc (.int .i64 (frm))),.c (.sc (.int .i64 (nn))),zz,zz,zz,zz,zz,zz,.c (.ow 9004),zz,.c (.ow 9001),zz,.c (.sc (.int .i64 (frm+(k:Int)))),.c (.ow 9002),.c (.sc (.int .i64 (k'.1))),zz,zz,zz,zz,zz,zz,zz,zz,zz,zz,zz,zz,zz,zz,zz,zz,zz,zz,zz,zz,zz,zz,zz,zz,zz,zz,zz,zz,zz,zz,zz,zz,zz,zz,zz,zz,zz,zz,zz,zz,zz,zz,zz,zz,zz,zz,zz,zz,zz,zz,zz,zz,zz,zz,zz,zz,zz,zz,zz,zz,zz,zz,zz,zz,zz,zz,zz,zz,zz,zz,zz,zz,zz,zz,zz,zz,zz,zz,zz,zz,zz,zz,zz,zz],[(30,.box [.rd [] 26 ((.row 2 (.int .i64))) ((E7 (pi,ts,ns,os) ins frm k (cc,List.replicate os.length [])).1)]),(9004,.row 2 (.int .i64) (O4 ns) []),(9001,.tree 26 (.row 2 (.int .i64)) ((E7 (pi,ts,ns,os) ins frm k (cc,List.replicate os.length [])).2) none),(9002,.row 2 (.int .i64) ((H6 ins (frm+(k:Int))).take k'.1) [])]⟩) (fun k'=>ins.length - k'.1) ⟨0,by simp⟩ ?_ ?_
   ·
    refine oK ?_;simp (maxSteps:=2000000)only[go_sem];all_goals((repeat' refine And.intro ?_ ?_)<;>first|rfl|omega|(congr 1;done)|simp)
   rintro⟨m,hm⟩ K19 hL19
   have htl:((H6 ins (frm+(k:Int))).take m).length=m:=by rw[List.length_take];omega
   have hil4:ins.length≤4:=by omega
   have hset:m < ins.length→(H6 ins (frm+(k:Int))).take m++[(ins.getD m []).getD (Int.toNat (frm+(k:Int))) 0]=(H6 ins (frm+(k:Int))).take (m+1):=fun h=>by rw[←B4v h];exact(G7 (by omega)).symm
   refine oS fun _ hK20=>?_;refine oS fun _ hK21=>?_;refine oW F5 ?_;simp only[go_sem];refine hK21 _ ?_;refine oC rfl ?_ ?_
   ·
    intro c2;refine A3 ?_;simp only[go_sem];refine hK20 _ ?_;refine oS fun _ hK22=>?_;refine A5 ?_;refine oW F5 ?_;simp (maxSteps:=2000000)only[List.nodup_nil,go_sem];repeat(with_reducible first|refine oA ?_|refine And.intro (by first|omega|exact L2 (by omega) (by omega)) ?_)
    refine hK22 _ ?_;refine oW F5 ?_;simp only[go_sem];refine hL19 ⟨m+1,by omega⟩ _ (oK ?_) ?_
    ·
     simp (maxSteps:=2000000)only[go_sem];all_goals((repeat' refine And.intro ?_ ?_)<;>first|rfl|exact wk (by omega)|exact hset (by omega)|(congr 1;done))
    ·
     first|(simp only[];omega)|omega|(simp;omega)
   intro c2;have hbl:(H6 ins (frm+(k:Int))).take m=(H6 ins (frm+(k:Int))):=List.take_of_length_le (by omega)
   refine C2 ?_;simp only[go_sem];refine hK17 _ ?_;refine oS fun _ hK23=>?_;refine oW F5 ?_;simp (maxSteps:=2000000)only[hbl,go_sem];repeat(with_reducible first|refine oA ?_|refine And.intro (by first|exact⟨hP,rfl,hks,hfl,hff⟩|exact⟨hP,hks,hfl,hff⟩) ?_)
   refine hK23 _ ?_;refine oS fun _ hK24=>?_;refine oS fun _ hK25=>?_;refine oW F5 ?_;simp only[go_sem];refine hK25 _ ?_;refine A5 ?_;refine B4 (ι:={ m:Nat // m≤os.length }) (fun k'=>⟨[.c (.pt [] ((.prod (.int .i64) (.prod (.row 26 (.row 2 (.int .i64))) (.prod (.row 56 (.prod (.int .i64) (.prod (.int .i64) (.prod (.int .i64) (.row 2 (.int .i64)))))) (.row 2 (.int .i64)))))) (pi,ts,ns,os) 0),.c (.po 30 0),.c (.rd [] 26 (.row 2 (.int .i64)) (ins)),.c (.sc (.int .i64 (frm))),.c (.sc (.int .i64 (nn))),zz,zz,zz,zz,zz,zz,.c (.ow 9004),zz,.c (.ow 9001),zz,.c (.sc (.int .i64 (frm+(k:Int)))),.c (.ow 9002),zz,.c (.ow 9003),.c (.sc (.int .i64 (k'.1))),zz,zz,zz,zz,zz,zz,zz,zz,zz,zz,zz,zz,zz,zz,zz,zz,zz,zz,zz,zz,zz,zz,zz,zz,zz,zz,zz,zz,zz,zz,zz,zz,zz,zz,zz,zz,zz,zz,zz,zz,zz,zz,zz,zz,zz,zz,zz,zz,zz,zz,zz,zz,zz,zz,zz,zz,zz,zz,zz,zz,zz,zz,zz,zz,zz,zz,zz,zz,zz,zz,zz,zz,zz,zz,zz,zz,zz,zz,zz,zz,zz,zz],[(30,.box [.rd [] 26 ((.row 2 (.int .i64))) ((E7 (pi,ts,ns,os) ins frm k (cc,List.replicate os.length [])).1)]),(9004,.row 2 (.int .i64) (O4 ns) []),(9001,.tree 26 (.row 2 (.int .i64)) (y1 (A0Z (E7 (pi,ts,ns,os) ins frm k (cc,List.replicate os.length [])).2 (Y6 (pi,ts,ns,os) (U8 (pi,ts,ns,os) (E7 (pi,ts,ns,os) ins frm k (cc,List.replicate os.length [])).1 (H6 ins (frm+(k:Int)))))) (E7 (pi,ts,ns,os) ins frm k (cc,List.replicate os.length [])).2 k'.1) none),(9002,.row 2 (.int .i64) ((H6 ins (frm+(k:Int)))) []),(9003,.row 2 (.int .i64) ((U8 (pi,ts,ns,os) (E7 (pi,ts,ns,os) ins frm k (cc,List.replicate os.length [])).1 (H6 ins (frm+(k:Int))))) [])]⟩) (fun k'=>os.length - k'.1) ⟨0,by simp⟩ ?_ ?_
   ·
    refine oK ?_;simp (maxSteps:=2000000)only[go_sem];all_goals((repeat' refine And.intro ?_ ?_)<;>first|rfl|omega|(congr 1;exact B4m.symm)|(congr 1;done))
   rintro⟨m,hm⟩ K26 hL26
   have hxl:(Y6 (pi,ts,ns,os) (U8 (pi,ts,ns,os) (E7 (pi,ts,ns,os) ins frm k (cc,List.replicate os.length [])).1 (H6 ins (frm+(k:Int))))).length=os.length:=Z9 (pi,ts,ns,os) _
   have hal:(A0Z (E7 (pi,ts,ns,os) ins frm k (cc,List.replicate os.length [])).2 (Y6 (pi,ts,ns,os) (U8 (pi,ts,ns,os) (E7 (pi,ts,ns,os) ins frm k (cc,List.replicate os.length [])).1 (H6 ins (frm+(k:Int)))))).length=(E7 (pi,ts,ns,os) ins frm k (cc,List.replicate os.length [])).2.length:=by rw[A7q (by omega)];omega
   have hbl1:(y1 (A0Z (E7 (pi,ts,ns,os) ins frm k (cc,List.replicate os.length [])).2 (Y6 (pi,ts,ns,os) (U8 (pi,ts,ns,os) (E7 (pi,ts,ns,os) ins frm k (cc,List.replicate os.length [])).1 (H6 ins (frm+(k:Int)))))) (E7 (pi,ts,ns,os) ins frm k (cc,List.replicate os.length [])).2 m).length=os.length:=by rw[B7w (by omega) (by omega)];omega
   have hbat0:m < os.length→(y1 (A0Z (E7 (pi,ts,ns,os) ins frm k (cc,List.replicate os.length [])).2 (Y6 (pi,ts,ns,os) (U8 (pi,ts,ns,os) (E7 (pi,ts,ns,os) ins frm k (cc,List.replicate os.length [])).1 (H6 ins (frm+(k:Int)))))) (E7 (pi,ts,ns,os) ins frm k (cc,List.replicate os.length [])).2 m).getD m []=(E7 (pi,ts,ns,os) ins frm k (cc,List.replicate os.length [])).2.getD m []:=fun h=>B9t [] (by omega) (by omega)
   have holn:m < os.length→((E7 (pi,ts,ns,os) ins frm k (cc,List.replicate os.length [])).2.getD m []).length=k:=fun h=>by have:=A6E (p:=(pi,ts,ns,os)) (ins:=ins) (frm:=frm) (s:=cc) (o:=List.replicate os.length []) (m:=0) hF hcc hin (by simp) (by intro i hi;simp[List.getD] at hi ⊢;simp[hi]) k m h;omega
   have hset:m < os.length→(y1 (A0Z (E7 (pi,ts,ns,os) ins frm k (cc,List.replicate os.length [])).2 (Y6 (pi,ts,ns,os) (U8 (pi,ts,ns,os) (E7 (pi,ts,ns,os) ins frm k (cc,List.replicate os.length [])).1 (H6 ins (frm+(k:Int)))))) (E7 (pi,ts,ns,os) ins frm k (cc,List.replicate os.length [])).2 m).set m ((E7 (pi,ts,ns,os) ins frm k (cc,List.replicate os.length [])).2.getD m []++[(Y6 (pi,ts,ns,os) (U8 (pi,ts,ns,os) (E7 (pi,ts,ns,os) ins frm k (cc,List.replicate os.length [])).1 (H6 ins (frm+(k:Int))))).getD m 0])=y1 (A0Z (E7 (pi,ts,ns,os) ins frm k (cc,List.replicate os.length [])).2 (Y6 (pi,ts,ns,os) (U8 (pi,ts,ns,os) (E7 (pi,ts,ns,os) ins frm k (cc,List.replicate os.length [])).1 (H6 ins (frm+(k:Int)))))) (E7 (pi,ts,ns,os) ins frm k (cc,List.replicate os.length [])).2 (m+1):=fun h=>by rw[←A61 (by omega) (by omega)];exact B8Y [] (by omega) (by omega)
   have hvl:(U8 (pi,ts,ns,os) (E7 (pi,ts,ns,os) ins frm k (cc,List.replicate os.length [])).1 (H6 ins (frm+(k:Int)))).length=ns.length:=hvo.1
   have hox:m < os.length→0≤os.getD m 0∧os.getD m 0≤ns.length - 1:=fun h=>I5 (A8 hF).2.2.2.2.2.1 (B9 h)
   have hxa:m < os.length→(Y6 (pi,ts,ns,os) (U8 (pi,ts,ns,os) (E7 (pi,ts,ns,os) ins frm k (cc,List.replicate os.length [])).1 (H6 ins (frm+(k:Int))))).getD m 0=(U8 (pi,ts,ns,os) (E7 (pi,ts,ns,os) ins frm k (cc,List.replicate os.length [])).1 (H6 ins (frm+(k:Int)))).getD (Int.toNat (os.getD m 0)) 0:=fun h=>by simp[Y6,List.getD,h]
   refine oS fun _ hK27=>?_;refine oS fun _ hK28=>?_;refine oW F5 ?_;simp (maxSteps:=2000000)only[go_sem];repeat(with_reducible refine oA ?_)
   refine hK28 _ ?_;refine oC rfl ?_ ?_
   ·
    intro c3;have hbat:=hbat0 (by omega)
    have holn:=holn (by omega)
    obtain⟨hox1,hox2⟩:=hox (by omega)
    refine A3 ?_;simp only[go_sem];refine hK27 _ ?_;refine oS fun _ hK29=>?_;refine A5 ?_
    refine oR F5
      [[],[],[],[],[2,3],[2,3,4],[],[],[7],[7,8],[7,8,9],[],[7,8,9,10,11],[7,8,9,10,11,12],[6,7,8,9,10,11,12,13],[6,7,8,9,10,11,12,13,14],[6,7,8,9,10,11,12,13,14,15],[2,3,4,5,6,7,8,9,10,11,12,13,14,15,16],[0,1,2,3,4,5,6,7,8,9,10,11,12,13,14,15,16,17],[0,1,2,3,4,5,6,7,8,9,10,11,12,13,14,15,16,17,18]]
      [[1588,1604,1009001],[1588,1604,1009001],[1588],[1588],[1588],[1588],[],[],[],[],[],[],[],[],[],[],[],[],[],[]]
      [[],[],[],[],[],[],[],[],[],[],[],[],[],[],[],[],[1588],[1588,1604,1009001],[],[]] (by kernel_rfl) (by kernel_rfl) (B7 (acc:=[]) ?_)
    simp (maxSteps:=2000000)only[List.nodup_cons,List.nodup_nil,List.not_mem_nil,not_false_eq_true,hbat,go_sem];repeat(with_reducible first|refine oD ?_|refine And.intro (by first|omega) ?_)
    refine hK29 _ ?_;refine oW F5 ?_;simp only[go_sem];refine hL26 ⟨m+1,by omega⟩ _ (oK ?_) ?_
    ·
     simp (maxSteps:=2000000)only[go_sem];all_goals((repeat' refine And.intro ?_ ?_)<;>first|rfl|exact wk (by omega)|(congr 1;rw[←hxa (by omega)];exact hset (by omega))|(congr 1;done))
    ·
     first|(simp only[];omega)|omega|(simp;omega)
   intro c3;refine C2 ?_;simp only[go_sem];refine hK24 _ ?_;refine oW F5 ?_;simp (maxSteps:=2000000)only[go_sem];repeat(with_reducible first|refine oA ?_|refine And.intro (by first|exact⟨hP,hks,hfl,hff,hvo⟩) ?_)
   refine hK15 _ ?_;refine oW F5 ?_;simp only[go_sem];refine hL12 ⟨k+1,by omega⟩ _ ((d7 _ 1700 (by decide)).trans <| oK ?_) ?_
   ·
    simp (maxSteps:=2000000)only[go_sem];all_goals((repeat' refine And.intro ?_ ?_)<;>first|rfl|(rw[G9 (by omega)];omega)|(congr 1;exact B7a (by omega) (by omega))|(congr 1;done))
   ·
    first|(simp only[];omega)|omega|(simp;omega)
  intro c1;refine C2 ?_;simp only[go_sem];refine hK10 _ ?_;refine oS fun _ hK30=>?_;refine oW F5 ?_;simp only[go_sem];refine hK30 _ ?_;refine A2 ?_;simp only[hres,go_sem]
  first
   | exact oG
   | refine ⟨oG, ?_⟩
     have hk3:k=nn.toNat:=by omega
     clear hK1 hK2 hK3 hK4 hK5 hL6 hK7 hK8 hK10 hK11 hL12 hK13 hK14 hK30;subst hk3
     (repeat' refine And.intro ?_ ?_)<;>first|rfl|(congr 1;done)
def A4I:F8:=fun f=>if f=48 then some (.g n4) else A9H f
theorem A9i:B8 Tryz.prog A4I:=a8 B3K (B6 Tryz.func48 rfl (by decide)) F5
attribute [go_sem] A4I n4
end Go.Proofs.YtflobmmbhaofbaaGreat
