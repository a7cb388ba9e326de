/-
  Texts of this claim, joined (part 51). No condition beyond those of the theorems.
-/
import Derived.Test.YtgaogcnfijbahaaGreatQ21
import Derived.Test.YtgaogcnfijbahaaGreatQ19
import Derived.Test.YtgaogcnfijbahaaGreatQ06
import Derived.Test.YtgaogcnfijbahaaGreatQ30
import Derived.Test.YtgaogcnfijbahaaGreatQ24
import Derived.Test.YtgaogcnfijbahaaGreatQ37
import Derived.Test.YtgaogcnfijbahaaGreatQ02
namespace Go.Proofs.YtgaogcnfijbahaaGreat
open Go.RowKit
set_option linter.unusedSimpArgs false
set_option linter.unusedVariables false
set_option maxRecDepth 100000
set_option maxHeartbeats 1000000
def A3L:Con:=⟨[.val ((.row 5 (.int .u8))),.val ((.row 5 (.int .u8)))],[⟨.bool,true⟩],fun _=>True,fun x=>decide (1048576 < (List.length x.1:Int)) || decide (1048576 < (List.length x.2.1:Int))⟩
theorem C0z:C9 Tryz.prog 4 A3L:=by
  refine A4 Tryz.func4 rfl ?_
  have hres:Tryz.f4.results.toList=[.tmp 4]:=rfl
  rintro⟨(cd:List Int),(mr:List Int),_⟩ hc hL
  simp only[A3L,go_sem] at hL
  simp only[A3L,St.init,St.initG,Tryz.ntmps4,go_sem] 
  refine oS fun _ hK1=>?_;refine oW D3 ?_;simp only[go_sem];refine hK1 _ ?_;refine oS fun _ hK2=>?_;refine oW D3 ?_;simp (maxSteps:=2000000)only[go_sem];repeat' (with_reducible first|refine oA ?_|refine oT (fun g1=>?_) (fun g1=>?_)|refine oE (fun g1=>?_) (fun g1=>?_))
  all_goals
   refine hK2 _ ?_;refine A0 ?_;simp only[hres,go_sem]
   first
    | exact oF
    | refine ⟨?_, oF⟩
      clear hK1 hK2;first|rfl|(simp_all;done)|(rw[decide_eq_false (show ¬(1048576:Int) < (cd.length:Int) by omega),Bool.false_or];done)|(rw[decide_eq_false (show ¬(1048576:Int) < (cd.length:Int) by omega),Bool.false_or];rfl)|(rw[decide_eq_true (show (1048576:Int) < (cd.length:Int) by omega)];simp;done)
def B00:E4:=fun f=>if f=4 then some (.p A3L) else e9 f
theorem P7:B4 Tryz.prog B00:=E3 C0z (B0 Tryz.func4 rfl (by decide)) D3
attribute [go_sem] B00 A3L
def A3U:Con:=⟨[.val ((.row 2 (.int .i64))),.val ((.row 2 (.int .i64)))],[⟨.bool,true⟩],fun _=>True,fun x=>eqD (x.1:List Int) (x.2.1:List Int)⟩
theorem B9w:C9 Tryz.prog 10 A3U:=by
  refine A4 Tryz.func10 rfl ?_
  have hres:Tryz.f10.results.toList=[.tmp 4]:=rfl
  rintro⟨(xs:List Int),(ys:List Int),_⟩ hc hL
  simp only[A3U,go_sem] at hL
  obtain⟨lxs,lys⟩:=hL;simp only[A3U,St.init,St.initG,Tryz.ntmps10,go_sem] 
  refine oS fun _ hK1=>?_;refine oW P7 ?_;simp only[go_sem];refine hK1 _ ?_;refine oS fun _ hK2=>?_;refine oS fun _ hK3=>?_;refine oW P7 ?_;simp (maxSteps:=2000000)only[go_sem];refine hK3 _ ?_;refine oC rfl ?_ ?_
  ·
   intro c0;refine oS fun _ hK4=>?_;refine oW P7 ?_;simp only[go_sem];refine hK4 _ ?_;refine A0 ?_;simp only[hres,go_sem];first|exact oF|(refine⟨?_,oF⟩;exact(B7t (by omega)).symm)
  intro c0;refine A2 ?_;simp only[go_sem];refine hK2 _ ?_;refine oS fun _ hK5=>?_;refine oS fun _ hK6=>?_;refine oW P7 ?_;simp only[go_sem];refine hK6 _ ?_;refine A1 ?_;refine A7 (ι:={ k:Nat // k≤xs.length∧xs.take k=ys.take k }) (fun k=>⟨[.c (.rd [] 2 (.int .i64) (xs)),.c (.rd [] 2 (.int .i64) (ys)),zz,zz,zz,.c (.sc (.int .i64 (k.1))),zz,zz,zz,zz,zz,zz,zz,zz,zz,zz,zz,zz,zz,zz,zz,zz,zz,zz,zz,zz],[]⟩) (fun k=>xs.length - k.1) ⟨0,by simp,by simp⟩ ?_ ?_
  ·
   refine oK ?_;simp (maxSteps:=2000000)only[go_sem];all_goals(first|rfl|((repeat' refine And.intro ?_ ?_)<;>first|rfl|simp))
  rintro⟨k,hk,hp⟩ K7 hL7
  refine oS fun _ hK8=>?_;refine oS fun _ hK9=>?_;refine oW P7 ?_;simp only[go_sem];refine hK9 _ ?_;refine oC rfl ?_ ?_
  ·
   intro c1;refine A2 ?_;simp only[go_sem];refine hK8 _ ?_;refine oS fun _ hK10=>?_;refine A1 ?_;refine oS fun _ hK11=>?_
   refine oR P7
     [[],[],[0,1],[0,1,2],[],[],[4,5],[4,5,6],[0,1,2,3,4,5,6,7]]
     [[],[],[],[],[],[],[],[],[]]
     [[],[],[],[],[],[],[],[],[]] (by kernel_rfl) (by kernel_rfl) (A9 (acc:=[]) ?_)
   simp (maxSteps:=2000000)only[go_sem];repeat(with_reducible refine oD ?_)
   refine hK11 _ ?_;refine oC rfl ?_ ?_
   ·
    intro c2;refine oS fun _ hK12=>?_;refine oW P7 ?_;simp only[go_sem];refine hK12 _ ?_;refine A0 ?_;simp only[hres,go_sem];first|exact oF|(refine⟨?_,oF⟩;exact(B2v 0 (m:=k) (by first|assumption|exact decide_eq_false (by assumption))).symm)
   intro c2;refine A2 ?_;simp only[go_sem];refine hK10 _ ?_;refine oW P7 ?_;simp only[go_sem];refine hL7 ⟨k+1,by omega,B2x (d:=0) (by omega) (by omega) hp (by first|assumption|exact decide_eq_true (by assumption))⟩ _ (oK ?_) ?_
   ·
    simp (maxSteps:=2000000)only[go_sem];all_goals(first|rfl|((repeat' refine And.intro ?_ ?_)<;>first|rfl|exact wk (by omega)|simp))
   ·
    first|(simp only[];omega)|omega|(simp;omega)
  intro c1;refine B6 ?_;simp only[go_sem];refine hK5 _ ?_;refine oS fun _ hK13=>?_;refine oW P7 ?_;simp only[go_sem];refine hK13 _ ?_;refine A0 ?_;simp only[hres,go_sem];first|exact oF|(refine⟨?_,oF⟩;exact(B2S (m:=k) (by omega) (by omega) hp).symm)
def B0k:E4:=fun f=>if f=10 then some (.p A3U) else B00 f
theorem B67:B4 Tryz.prog B0k:=E3 B9w (B0 Tryz.func10 rfl (by decide)) P7
attribute [go_sem] B0k A3U
set_option maxRecDepth 100000
set_option maxHeartbeats 16000000
def A9X:E4:=fun f=>match x9 f with
 | some k=>some k
 | none=>A4R f
theorem B5l:B4 Tryz.prog A9X:=N2 L0 A6A
attribute [go_sem] A9X T0
def A93:E4:=fun f=>match A9X f with
 | some k=>some k
 | none=>A5s f
theorem B62:B4 Tryz.prog A93:=N2 B5l A85
attribute [go_sem] A93 T0
def B0l:E4:=fun f=>match A93 f with
 | some k=>some k
 | none=>l8 f
theorem E9:B4 Tryz.prog B0l:=N2 B62 z9
attribute [go_sem] B0l T0
def o8:GCon where
  ps:=[.ptr ((.prod (.int .i64) (.prod (.row 26 (.row 2 (.int .i64))) (.prod (.row 95 (.prod (.int .i64) (.prod (.int .i64) (.prod (.int .i64) (.row 2 (.int .i64)))))) (.row 2 (.int .i64)))))),.po 0,.val ((.row 26 (.row 2 (.int .i64)))),.val (.int .i64),.val (.int .i64)]
  os:=[.box [.rd ((.row 26 (.row 2 (.int .i64))))]]
  c:=fun x=>B9 x.1.1=true∧U3 x.1.1 x.2.1.1∧J9 x.1.1 x.1.2.2.1∧0≤x.1.2.2.2.1∧0≤x.1.2.2.2.2.1∧x.1.2.2.2.1+x.1.2.2.2.2.1≤1000000
  r:=fun _=>.c (.ow 10)
  o:=fun x=>[(30,.box [.rd [] 26 ((.row 2 (.int .i64))) ((C2 x.1.1 x.1.2.2.1 x.1.2.2.2.1 (Int.toNat x.1.2.2.2.2.1) (x.2.1.1,List.replicate x.1.1.2.2.2.length [])).1)]),(10,.tree 26 (.row 2 (.int .i64)) ((C2 x.1.1 x.1.2.2.1 x.1.2.2.2.1 (Int.toNat x.1.2.2.2.2.1) (x.2.1.1,List.replicate x.1.1.2.2.2.length [])).2) none)]
  ok:=by
    rintro⟨⟨⟨(pi:Int),(ts:List (List Int)),(ns:List A6),(os:List Int)⟩,_,(ins:List (List Int)),(frm:Int),(nn:Int),_⟩,⟨⟨(cc:List (List Int)),_⟩,_⟩⟩
    exact⟨rfl,rfl,by decide⟩
theorem B5i:Z2 Tryz.prog 59 o8:=by
  refine E1 Tryz.func59 rfl ?_
  have hres:Tryz.f59.results.toList=[.tmp 10]:=rfl
  rintro⟨⟨⟨(pi:Int),(ts:List (List Int)),(ns:List A6),(os:List Int)⟩,_,(ins:List (List Int)),(frm:Int),(nn:Int),_⟩,⟨⟨(cc:List (List Int)),_⟩,_⟩⟩ hc hL hO
  simp only[o8,go_sem] at hL
  simp only[o8,go_sem] at hO
  simp only[o8,St.init,St.initG,Tryz.ntmps59,go_sem] 
  obtain⟨hP,hcc,hin,hfr,hnn,hfn⟩:=(show B9 (pi,ts,ns,os)=true∧U3 (pi,ts,ns,os) cc∧J9 (pi,ts,ns,os) ins∧0≤frm∧0≤nn∧frm+nn≤1000000 from hc)
  obtain⟨hF,hol⟩:=B8 hP
  have hn24:ns.length≤24:=(A8 hF).1
  have ho4:os.length≤4:=(A8 hF).2.1
  have hwn:IntKind.i64.wrap (frm+nn)=frm+nn:=F3 (by omega)
  have hor:B3n ns=(C6 ns,true):=C22 (B8 hP).2
  have hpi0:0≤pi∧pi≤4:=⟨(A8 hF).2.2.2.1,(A8 hF).2.2.2.2.1⟩
  refine oS fun _ hK1=>?_;refine oW E9 ?_;simp only[go_sem];refine hK1 _ ?_;refine oS fun _ hK2=>?_;refine oW E9 ?_;simp (maxSteps:=2000000)only[hor,go_sem];repeat(with_reducible first|refine oA ?_|refine And.intro (by first|exact hF) ?_)
  refine hK2 _ ?_;refine oS fun _ hK3=>?_;refine oW E9 ?_;simp only[List.nodup_nil,go_sem];repeat(with_reducible refine oA ?_)
  refine hK3 _ ?_;refine oS fun _ hK4=>?_;refine oS fun _ hK5=>?_;refine oW E9 ?_;simp only[go_sem];refine hK5 _ ?_;refine A1 ?_;refine A7 (ι:={ k:Nat // k≤os.length }) (fun k=>⟨[.c (.pt [] ((.prod (.int .i64) (.prod (.row 26 (.row 2 (.int .i64))) (.prod (.row 95 (.prod (.int .i64) (.prod (.int .i64) (.prod (.int .i64) (.row 2 (.int .i64)))))) (.row 2 (.int .i64)))))) (pi,ts,ns,os) 0),.c (.po 30 0),.c (.rd [] 26 (.row 2 (.int .i64)) (ins)),.c (.sc (.int .i64 (frm))),.c (.sc (.int .i64 (nn))),zz,zz,zz,zz,zz,zz,.c (.ow 9004),zz,.c (.ow 9001),.c (.sc (.int .i64 (k.1))),zz,zz,zz,zz,zz,zz,zz,zz,zz,zz,zz,zz,zz,zz,zz,zz,zz,zz,zz,zz,zz,zz,zz,zz,zz,zz,zz,zz,zz,zz,zz,zz,zz,zz,zz,zz,zz,zz,zz,zz,zz,zz,zz,zz,zz,zz,zz,zz,zz,zz,zz,zz,zz,zz,zz,zz,zz,zz,zz,zz,zz,zz,zz,zz,zz,zz,zz,zz,zz,zz,zz,zz,zz,zz,zz,zz,zz,zz,zz,zz,zz,zz,zz,zz,zz,zz,zz],[(30,.box [.rd [] 26 ((.row 2 (.int .i64))) (cc)]),(9004,.row 2 (.int .i64) (C6 ns) []),(9001,.tree 26 (.row 2 (.int .i64)) (List.replicate k.1 []) none)]⟩) (fun k=>os.length - k.1) ⟨0,by simp⟩ ?_ ?_
  ·
   refine oK ?_;simp (maxSteps:=2000000)only[go_sem];all_goals((repeat' refine And.intro ?_ ?_)<;>first|rfl|omega|(congr 1;done)|simp)
  rintro⟨k,hk⟩ K6 hL6
  have hrl:(List.replicate k ([]:List Int)).length=k:=List.length_replicate
  refine oS fun _ hK7=>?_;refine oS fun _ hK8=>?_;refine oW E9 ?_;simp (maxSteps:=2000000)only[go_sem];repeat(with_reducible refine oA ?_)
  refine hK8 _ ?_;refine oC rfl ?_ ?_
  ·
   intro c0;refine A2 ?_;simp only[go_sem];refine hK7 _ ?_;refine oS fun _ hK9=>?_;refine A1 ?_;refine oW E9 ?_;simp (maxSteps:=2000000)only[List.nodup_cons,List.nodup_nil,List.not_mem_nil,not_false_eq_true,go_sem];repeat(with_reducible refine oA ?_)
   refine hK9 _ ?_;refine oW E9 ?_;simp only[go_sem];refine hL6 ⟨k+1,by omega⟩ _ (oK ?_) ?_
   ·
    simp (maxSteps:=2000000)only[go_sem];all_goals((repeat' refine And.intro ?_ ?_)<;>first|rfl|exact wk (by omega)|(congr 1;exact List.replicate_succ'.symm)|(congr 1;done))
   ·
    first|(simp only[];omega)|omega|(simp;omega)
  intro c0;refine B6 ?_;simp only[go_sem];refine hK4 _ ?_;refine oS fun _ hK10=>?_;refine oS fun _ hK11=>?_;refine oW E9 ?_;simp only[go_sem];refine hK11 _ ?_;refine A1 ?_;refine A7 (ι:={ k:Nat // k≤nn.toNat }) (fun k=>⟨[.c (.pt [] ((.prod (.int .i64) (.prod (.row 26 (.row 2 (.int .i64))) (.prod (.row 95 (.prod (.int .i64) (.prod (.int .i64) (.prod (.int .i64) (.row 2 (.int .i64)))))) (.row 2 (.int .i64)))))) (pi,ts,ns,os) 0),.c (.po 30 0),.c (.rd [] 26 (.row 2 (.int .i64)) (ins)),.c (.sc (.int .i64 (frm))),.c (.sc (.int .i64 (nn))),zz,zz,zz,zz,zz,zz,.c (.ow 9004),zz,.c (.ow 9001),zz,.c (.sc (.int .i64 (frm+(k.1:Int)))),zz,zz,zz,zz,zz,zz,zz,zz,zz,zz,zz,zz,zz,zz,zz,zz,zz,zz,zz,zz,zz,zz,zz,zz,zz,zz,zz,zz,zz,zz,zz,zz,zz,zz,zz,zz,zz,zz,zz,zz,zz,zz,zz,zz,zz,zz,zz,zz,zz,zz,zz,zz,zz,zz,zz,zz,zz,zz,zz,zz,zz,zz,zz,zz,zz,zz,zz,zz,zz,zz,zz,zz,zz,zz,zz,zz,zz,zz,zz,zz,zz,zz,zz,zz,zz,zz],[(30,.box [.rd [] 26 ((.row 2 (.int .i64))) ((C2 (pi,ts,ns,os) ins frm k.1 (cc,List.replicate os.length [])).1)]),(9004,.row 2 (.int .i64) (C6 ns) []),(9001,.tree 26 (.row 2 (.int .i64)) ((C2 (pi,ts,ns,os) ins frm k.1 (cc,List.replicate os.length [])).2) none)]⟩) (fun k=>nn.toNat - k.1) ⟨0,by simp⟩ ?_ ?_
  ·
   refine oK ?_;simp (maxSteps:=2000000)only[go_sem];all_goals((repeat' refine And.intro ?_ ?_)<;>first|rfl|omega|(congr 1;exact congrArg (fun z=>List.replicate z _) (by omega))|(congr 1;done)|simp)
  rintro⟨k,hk⟩ K12 hL12
  obtain⟨hks,hko⟩:=A0y (p:=(pi,ts,ns,os)) (ins:=ins) (frm:=frm) (s:=cc) (o:=List.replicate os.length []) hF hcc hin (by simp) k
  obtain⟨hfl,hff⟩:=A1B (p:=(pi,ts,ns,os)) hin (frm+(k:Int))
  have hfal:(C7 ins (frm+(k:Int))).length=ins.length:=by simp[C7]
  have hko:(C2 (pi,ts,ns,os) ins frm k (cc,List.replicate os.length [])).2.length=os.length:=hko
  have hil:(ins.length:Int)=pi:=hin.1
  have hvo:=a6 (p:=(pi,ts,ns,os)) (s:=(C2 (pi,ts,ns,os) ins frm k (cc,List.replicate os.length [])).1) (fr:=(C7 ins (frm+(k:Int)))) hF hks hff
  refine oS fun _ hK13=>?_;refine oS fun _ hK14=>?_;refine oW E9 ?_;simp (maxSteps:=2000000)only[hwn,go_sem];refine hK14 _ ?_;refine oC rfl ?_ ?_
  ·
   intro c1;refine A2 ?_;simp only[go_sem];refine hK13 _ ?_;refine oS fun _ hK15=>?_;refine A1 ?_;refine oS fun _ hK16=>?_;refine oW E9 ?_;simp only[List.nodup_nil,go_sem];repeat(with_reducible refine oA ?_)
   refine hK16 _ ?_;refine oS fun _ hK17=>?_;refine oS fun _ hK18=>?_;refine oW E9 ?_;simp only[go_sem];refine hK18 _ ?_;refine A1 ?_;refine A7 (ι:={ m:Nat // m≤ins.length }) (fun k'=>⟨[.c (.pt [] ((.prod (.int .i64) (.prod (.row 26 (.row 2 (.int .i64))) (.prod (.row 95 (.prod (.int .i64) (.prod (.int .i64) (.prod (.int .i64) (.row 2 (.int .i64)))))) (.row 2 (.int .i64)))))) (pi,ts,ns,os) 0),.c (.po 30 0),.c (.rd [] 26 (.row 2 (.int .i64)) (ins)),.c (.sc (.int .i64 (frm))),.c (.sc (.int .i64 (nn))),zz,zz,zz,zz,zz,zz,.c (.ow 9004),zz,.c (.ow 9001),zz,.c (.sc (.int .i64 (frm+(k:Int)))),.c (.ow 9002),.c (.sc (.int .i64 (k'.1))),zz,zz,zz,zz,zz,zz,zz,zz,zz,zz,zz,zz,zz,zz,zz,zz,zz,zz,zz,zz,zz,zz,zz,zz,zz,zz,zz,zz,zz,zz,zz,zz,zz,zz,zz,zz,zz,zz,zz,zz,zz,zz,zz,zz,zz,zz,zz,zz,zz,zz,zz,zz,zz,zz,zz,zz,zz,zz,zz,zz,zz,zz,zz,zz,zz,zz,zz,zz,zz,zz,zz,zz,zz,zz,zz,zz,zz,zz,zz,zz,zz,zz,zz,zz],[(30,.box [.rd [] 26 ((.row 2 (.int .i64))) ((C2 (pi,ts,ns,os) ins frm k (cc,List.replicate os.length [])).1)]),(9004,.row 2 (.int .i64) (C6 ns) []),(9001,.tree 26 (.row 2 (.int .i64)) ((C2 (pi,ts,ns,os) ins frm k (cc,List.replicate os.length [])).2) none),(9002,.row 2 (.int .i64) ((C7 ins (frm+(k:Int))).take k'.1) [])]⟩) (fun k'=>ins.length - k'.1) ⟨0,by simp⟩ ?_ ?_
   ·
    refine oK ?_;simp (maxSteps:=2000000)only[go_sem];all_goals((repeat' refine And.intro ?_ ?_)<;>first|rfl|omega|(congr 1;done)|simp)
   rintro⟨m,hm⟩ K19 hL19
   have htl:((C7 ins (frm+(k:Int))).take m).length=m:=by rw[List.length_take];omega
   have hil4:ins.length≤4:=by omega
   have hset:m < ins.length→(C7 ins (frm+(k:Int))).take m++[(ins.getD m []).getD (Int.toNat (frm+(k:Int))) 0]=(C7 ins (frm+(k:Int))).take (m+1):=fun h=>by rw[←A2l h];exact(E7 (by omega)).symm
   refine oS fun _ hK20=>?_;refine oS fun _ hK21=>?_;refine oW E9 ?_;simp only[go_sem];refine hK21 _ ?_;refine oC rfl ?_ ?_
   ·
    intro c2;refine A2 ?_;simp only[go_sem];refine hK20 _ ?_;refine oS fun _ hK22=>?_;refine A1 ?_;refine oW E9 ?_;simp (maxSteps:=2000000)only[List.nodup_nil,go_sem];repeat(with_reducible first|refine oA ?_|refine And.intro (by first|omega|exact J8 (by omega) (by omega)) ?_)
    refine hK22 _ ?_;refine oW E9 ?_;simp only[go_sem];refine hL19 ⟨m+1,by omega⟩ _ (oK ?_) ?_
    ·
     simp (maxSteps:=2000000)only[go_sem];all_goals((repeat' refine And.intro ?_ ?_)<;>first|rfl|exact wk (by omega)|exact hset (by omega)|(congr 1;done))
    ·
     first|(simp only[];omega)|omega|(simp;omega)
   intro c2;have hbl:(C7 ins (frm+(k:Int))).take m=(C7 ins (frm+(k:Int))):=List.take_of_length_le (by omega)
   refine B6 ?_;simp only[go_sem];refine hK17 _ ?_;refine oS fun _ hK23=>?_;refine oW E9 ?_;simp (maxSteps:=2000000)only[hbl,go_sem];repeat(with_reducible first|refine oA ?_|refine And.intro (by first|exact⟨hP,rfl,hks,hfl,hff⟩|exact⟨hP,hks,hfl,hff⟩) ?_)
   refine hK23 _ ?_;refine oS fun _ hK24=>?_;refine oS fun _ hK25=>?_;refine oW E9 ?_;simp only[go_sem];refine hK25 _ ?_;refine A1 ?_;refine A7 (ι:={ m:Nat // m≤os.length }) (fun k'=>⟨[.c (.pt [] ((.prod (.int .i64) (.prod (.row 26 (.row 2 (.int .i64))) (.prod (.row 95 (.prod (.int .i64) (.prod (.int .i64) (.prod (.int .i64) (.row 2 (.int .i64)))))) (.row 2 (.int .i64)))))) (pi,ts,ns,os) 0),.c (.po 30 0),.c (.rd [] 26 (.row 2 (.int .i64)) (ins)),.c (.sc (.int .i64 (frm))),.c (.sc (.int .i64 (nn))),zz,zz,zz,zz,zz,zz,.c (.ow 9004),zz,.c (.ow 9001),zz,.c (.sc (.int .i64 (frm+(k:Int)))),.c (.ow 9002),zz,.c (.ow 9003),.c (.sc (.int .i64 (k'.1))),zz,zz,zz,zz,zz,zz,zz,zz,zz,zz,zz,zz,zz,zz,zz,zz,zz,zz,zz,zz,zz,zz,zz,zz,zz,zz,zz,zz,zz,zz,zz,zz,zz,zz,zz,zz,zz,zz,zz,zz,zz,zz,zz,zz,zz,zz,zz,zz,zz,zz,zz,zz,zz,zz,zz,zz,zz,zz,zz,zz,zz,zz,zz,zz,zz,zz,zz,zz,zz,zz,zz,zz,zz,zz,zz,zz,zz,zz,zz,zz,zz,zz],[(30,.box [.rd [] 26 ((.row 2 (.int .i64))) ((C2 (pi,ts,ns,os) ins frm k (cc,List.replicate os.length [])).1)]),(9004,.row 2 (.int .i64) (C6 ns) []),(9001,.tree 26 (.row 2 (.int .i64)) (V0 (W3 (C2 (pi,ts,ns,os) ins frm k (cc,List.replicate os.length [])).2 (J4 (pi,ts,ns,os) (E8 (pi,ts,ns,os) (C2 (pi,ts,ns,os) ins frm k (cc,List.replicate os.length [])).1 (C7 ins (frm+(k:Int)))))) (C2 (pi,ts,ns,os) ins frm k (cc,List.replicate os.length [])).2 k'.1) none),(9002,.row 2 (.int .i64) ((C7 ins (frm+(k:Int)))) []),(9003,.row 2 (.int .i64) ((E8 (pi,ts,ns,os) (C2 (pi,ts,ns,os) ins frm k (cc,List.replicate os.length [])).1 (C7 ins (frm+(k:Int))))) [])]⟩) (fun k'=>os.length - k'.1) ⟨0,by simp⟩ ?_ ?_
   ·
    refine oK ?_;simp (maxSteps:=2000000)only[go_sem];all_goals((repeat' refine And.intro ?_ ?_)<;>first|rfl|omega|(congr 1;exact A54.symm)|(congr 1;done))
   rintro⟨m,hm⟩ K26 hL26
   have hxl:(J4 (pi,ts,ns,os) (E8 (pi,ts,ns,os) (C2 (pi,ts,ns,os) ins frm k (cc,List.replicate os.length [])).1 (C7 ins (frm+(k:Int))))).length=os.length:=U8 (pi,ts,ns,os) _
   have hal:(W3 (C2 (pi,ts,ns,os) ins frm k (cc,List.replicate os.length [])).2 (J4 (pi,ts,ns,os) (E8 (pi,ts,ns,os) (C2 (pi,ts,ns,os) ins frm k (cc,List.replicate os.length [])).1 (C7 ins (frm+(k:Int)))))).length=(C2 (pi,ts,ns,os) ins frm k (cc,List.replicate os.length [])).2.length:=by rw[A5X (by omega)];omega
   have hbl1:(V0 (W3 (C2 (pi,ts,ns,os) ins frm k (cc,List.replicate os.length [])).2 (J4 (pi,ts,ns,os) (E8 (pi,ts,ns,os) (C2 (pi,ts,ns,os) ins frm k (cc,List.replicate os.length [])).1 (C7 ins (frm+(k:Int)))))) (C2 (pi,ts,ns,os) ins frm k (cc,List.replicate os.length [])).2 m).length=os.length:=by rw[A7N (by omega) (by omega)];omega
   have hbat0:m < os.length→(V0 (W3 (C2 (pi,ts,ns,os) ins frm k (cc,List.replicate os.length [])).2 (J4 (pi,ts,ns,os) (E8 (pi,ts,ns,os) (C2 (pi,ts,ns,os) ins frm k (cc,List.replicate os.length [])).1 (C7 ins (frm+(k:Int)))))) (C2 (pi,ts,ns,os) ins frm k (cc,List.replicate os.length [])).2 m).getD m []=(C2 (pi,ts,ns,os) ins frm k (cc,List.replicate os.length [])).2.getD m []:=fun h=>B5h [] (by omega) (by omega)
   have holn:m < os.length→((C2 (pi,ts,ns,os) ins frm k (cc,List.replicate os.length [])).2.getD m []).length=k:=fun h=>by have:=A4S (p:=(pi,ts,ns,os)) (ins:=ins) (frm:=frm) (s:=cc) (o:=List.replicate os.length []) (m:=0) hF hcc hin (by simp) (by intro i hi;simp[List.getD] at hi ⊢;simp[hi]) k m h;omega
   have hset:m < os.length→(V0 (W3 (C2 (pi,ts,ns,os) ins frm k (cc,List.replicate os.length [])).2 (J4 (pi,ts,ns,os) (E8 (pi,ts,ns,os) (C2 (pi,ts,ns,os) ins frm k (cc,List.replicate os.length [])).1 (C7 ins (frm+(k:Int)))))) (C2 (pi,ts,ns,os) ins frm k (cc,List.replicate os.length [])).2 m).set m ((C2 (pi,ts,ns,os) ins frm k (cc,List.replicate os.length [])).2.getD m []++[(J4 (pi,ts,ns,os) (E8 (pi,ts,ns,os) (C2 (pi,ts,ns,os) ins frm k (cc,List.replicate os.length [])).1 (C7 ins (frm+(k:Int))))).getD m 0])=V0 (W3 (C2 (pi,ts,ns,os) ins frm k (cc,List.replicate os.length [])).2 (J4 (pi,ts,ns,os) (E8 (pi,ts,ns,os) (C2 (pi,ts,ns,os) ins frm k (cc,List.replicate os.length [])).1 (C7 ins (frm+(k:Int)))))) (C2 (pi,ts,ns,os) ins frm k (cc,List.replicate os.length [])).2 (m+1):=fun h=>by rw[←A4H (by omega) (by omega)];exact A78 [] (by omega) (by omega)
   have hvl:(E8 (pi,ts,ns,os) (C2 (pi,ts,ns,os) ins frm k (cc,List.replicate os.length [])).1 (C7 ins (frm+(k:Int)))).length=ns.length:=hvo.1
   have hox:m < os.length→0≤os.getD m 0∧os.getD m 0≤ns.length - 1:=fun h=>U5 (A8 hF).2.2.2.2.2.1 (D6 h)
   have hxa:m < os.length→(J4 (pi,ts,ns,os) (E8 (pi,ts,ns,os) (C2 (pi,ts,ns,os) ins frm k (cc,List.replicate os.length [])).1 (C7 ins (frm+(k:Int))))).getD m 0=(E8 (pi,ts,ns,os) (C2 (pi,ts,ns,os) ins frm k (cc,List.replicate os.length [])).1 (C7 ins (frm+(k:Int)))).getD (Int.toNat (os.getD m 0)) 0:=fun h=>by simp[J4,List.getD,h]
   refine oS fun _ hK27=>?_;refine oS fun _ hK28=>?_;refine oW E9 ?_;simp (maxSteps:=2000000)only[go_sem];repeat(with_reducible refine oA ?_)
   refine hK28 _ ?_;refine oC rfl ?_ ?_
   ·
    intro c3;have hbat:=hbat0 (by omega)
    have holn:=holn (by omega)
    obtain⟨hox1,hox2⟩:=hox (by omega)
    refine A2 ?_;simp only[go_sem];refine hK27 _ ?_;refine oS fun _ hK29=>?_;refine A1 ?_
    refine oR E9
      [[],[],[],[],[2,3],[2,3,4],[],[],[7],[7,8],[7,8,9],[],[7,8,9,10,11],[7,8,9,10,11,12],[6,7,8,9,10,11,12,13],[6,7,8,9,10,11,12,13,14],[6,7,8,9,10,11,12,13,14,15],[2,3,4,5,6,7,8,9,10,11,12,13,14,15,16],[0,1,2,3,4,5,6,7,8,9,10,11,12,13,14,15,16,17],[0,1,2,3,4,5,6,7,8,9,10,11,12,13,14,15,16,17,18]]
      [[1588,1604,1009001],[1588,1604,1009001],[1588],[1588],[1588],[1588],[],[],[],[],[],[],[],[],[],[],[],[],[],[]]
      [[],[],[],[],[],[],[],[],[],[],[],[],[],[],[],[],[1588],[1588,1604,1009001],[],[]] (by kernel_rfl) (by kernel_rfl) (A9 (acc:=[]) ?_)
    simp (maxSteps:=2000000)only[List.nodup_cons,List.nodup_nil,List.not_mem_nil,not_false_eq_true,hbat,go_sem];repeat(with_reducible first|refine oD ?_|refine And.intro (by first|omega) ?_)
    refine hK29 _ ?_;refine oW E9 ?_;simp only[go_sem];refine hL26 ⟨m+1,by omega⟩ _ (oK ?_) ?_
    ·
     simp (maxSteps:=2000000)only[go_sem];all_goals((repeat' refine And.intro ?_ ?_)<;>first|rfl|exact wk (by omega)|(congr 1;rw[←hxa (by omega)];exact hset (by omega))|(congr 1;done))
    ·
     first|(simp only[];omega)|omega|(simp;omega)
   intro c3;refine B6 ?_;simp only[go_sem];refine hK24 _ ?_;refine oW E9 ?_;simp (maxSteps:=2000000)only[go_sem];repeat(with_reducible first|refine oA ?_|refine And.intro (by first|exact⟨hP,hks,hfl,hff,hvo⟩) ?_)
   refine hK15 _ ?_;refine oW E9 ?_;simp only[go_sem];refine hL12 ⟨k+1,by omega⟩ _ ((f0 _ 1700 (by decide)).trans <| oK ?_) ?_
   ·
    simp (maxSteps:=2000000)only[go_sem];all_goals((repeat' refine And.intro ?_ ?_)<;>first|rfl|(rw[F3 (by omega)];omega)|(congr 1;exact A72 (by omega) (by omega))|(congr 1;done))
   ·
    first|(simp only[];omega)|omega|(simp;omega)
  intro c1;refine B6 ?_;simp only[go_sem];refine hK10 _ ?_;refine oS fun _ hK30=>?_;refine oW E9 ?_;simp only[go_sem];refine hK30 _ ?_;refine A0 ?_;simp only[hres,go_sem]
  first
   | exact oG
   | refine ⟨oG, ?_⟩
     have hk3:k=nn.toNat:=by omega
     clear hK1 hK2 hK3 hK4 hK5 hL6 hK7 hK8 hK10 hK11 hL12 hK13 hK14 hK30;subst hk3
     (repeat' refine And.intro ?_ ?_)<;>first|rfl|(congr 1;done)
def A51:E4:=fun f=>if f=59 then some (.g o8) else B0l f
theorem B15:B4 Tryz.prog A51:=m8 B5i (B0 Tryz.func59 rfl (by decide)) E9
attribute [go_sem] A51 o8
end Go.Proofs.YtgaogcnfijbahaaGreat
