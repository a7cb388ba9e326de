/-
  Texts of this claim, joined (part 30). No condition beyond those of the theorems.
-/
import Derived.Test.YtgaogcnfijbahaaGreatQ28
import Derived.Test.YtgaogcnfijbahaaGreatQ29
namespace Go.Proofs.YtgaogcnfijbahaaGreat
open Go.RowKit
set_option linter.unusedSimpArgs false
set_option linter.unusedVariables false
set_option maxRecDepth 100000
set_option maxHeartbeats 4000000
def B20:E4:=fun f=>match A8k f with
 | some k=>some k
 | none=>A7Q f
theorem B6h:B4 Tryz.prog B20:=N2 B4M B3E
attribute [go_sem] B20 T0
def B2I:E4:=fun f=>match B20 f with
 | some k=>some k
 | none=>A2E f
theorem U0:B4 Tryz.prog B2I:=N2 B6h A2N
attribute [go_sem] B2I T0
def w5:Con:=⟨[.ptr (.prod (.int .i64) (.prod (.row 26 (.row 2 (.int .i64))) (.prod (.row 95 (.prod (.int .i64) (.prod (.int .i64) (.prod (.int .i64) (.row 2 (.int .i64)))))) (.row 2 (.int .i64))))),.val ((.row 2 (.int .i64))),.ptr (.row 26 (.row 2 (.int .i64))),.val ((.row 2 (.int .i64)))],[⟨(.row 2 (.int .i64)),true⟩],fun x=>B9 x.1=true∧x.2.1=C6 x.1.2.2.1∧U3 x.1 x.2.2.1∧(x.2.2.2.1.length:Int)=x.1.1∧D9 x.2.2.2.1=true,fun x=>E8 x.1 x.2.2.1 x.2.2.2.1⟩
theorem B2a:C9 Tryz.prog 110 w5:=by
  refine A4 Tryz.func110 rfl ?_
  have hres:Tryz.f110.results.toList=[.tmp 8]:=rfl
  rintro⟨⟨(pi:Int),(ts:List (List Int)),(ns:List A6),(os:List Int)⟩,(oo:List Int),(cc:List (List Int)),(ff:List Int),_⟩ hc hL
  simp only[w5,go_sem] at hL
  simp only[w5,St.init,St.initG,Tryz.ntmps110,go_sem] 
  obtain⟨hP,hoo,hcc,hfl,hff⟩:=(show B9 (pi,ts,ns,os)=true∧oo=C6 (pi,ts,ns,os).2.2.1∧U3 (pi,ts,ns,os) cc∧(ff.length:Int)=(pi,ts,ns,os).1∧D9 ff=true from hc)
  have hoo:oo=C6 ns:=hoo
  subst hoo;obtain⟨hF,hol⟩:=B8 hP
  have hol:(C6 ns).length=ns.length:=hol
  have hn24:ns.length≤24:=(A8 hF).1
  refine oS fun _ hK1=>?_;refine oW U0 ?_;simp only[go_sem];refine hK1 _ ?_;refine oS fun _ hK2=>?_;refine oW U0 ?_;simp (maxSteps:=2000000)only[List.nodup_nil,go_sem];repeat(with_reducible refine oA ?_)
  refine hK2 _ ?_;refine oS fun _ hK3=>?_;refine oS fun _ hK4=>?_;refine oW U0 ?_;simp only[go_sem];refine hK4 _ ?_;refine A1 ?_;refine A7 (ι:={ k:Nat // k≤(C6 ns).length }) (fun k=>⟨[.c (.pt [] ((.prod (.int .i64) (.prod (.row 26 (.row 2 (.int .i64))) (.prod (.row 95 (.prod (.int .i64) (.prod (.int .i64) (.prod (.int .i64) (.row 2 (.int .i64)))))) (.row 2 (.int .i64)))))) (pi,ts,ns,os) 0),.c (.rd [] 2 (.int .i64) (C6 ns)),.c (.pt [] ((.row 26 (.row 2 (.int .i64)))) cc 0),.c (.rd [] 2 (.int .i64) (ff)),zz,zz,zz,zz,zz,.c (.ow 9001),.c (.sc (.int .i64 (k.1))),zz,zz,zz,zz,zz,zz,zz,zz,zz,zz,zz,zz,zz,zz,zz,zz,zz,zz,zz,zz,zz,zz,zz,zz,zz,zz,zz,zz,zz,zz,zz,zz,zz,zz,zz,zz,zz,zz,zz,zz,zz,zz,zz,zz,zz],[(9001,.row 2 (.int .i64) ((P6 (pi,ts,ns,os) cc ff (List.replicate ns.length 0) ((C6 ns).take k.1))) [])]⟩) (fun k=>(C6 ns).length - k.1) ⟨0,by simp⟩ ?_ ?_
  ·
   refine oK ?_;simp (maxSteps:=2000000)only[go_sem];all_goals(first|rfl|((repeat' refine And.intro ?_ ?_)<;>first|rfl|simp))
  rintro⟨k,hk⟩ K5 hL5
  have hkv:=B56 (p:=(pi,ts,ns,os)) (s:=cc) (fr:=ff) hF hcc hff (L9 (pi,ts,ns,os)) k hk
  have hvl:(P6 (pi,ts,ns,os) cc ff (List.replicate ns.length 0) ((C6 ns).take k)).length=ns.length:=hkv.1
  have hsl:cc.length=ns.length:=hcc.1
  have hgd:k < (C6 ns).length→∃i0:Nat,(C6 ns).getD k 0=(i0:Int)∧i0 < ns.length:=fun h=>by obtain⟨q,h1,h2,_⟩:=Y5 ns k h;exact⟨q,h1,h2⟩
  have hnx:k < (C6 ns).length→P6 (pi,ts,ns,os) cc ff (List.replicate ns.length 0) ((C6 ns).take (k+1))=R4 (pi,ts,ns,os) cc ff (P6 (pi,ts,ns,os) cc ff (List.replicate ns.length 0) ((C6 ns).take k)) ((C6 ns).getD k 0):=fun h=>X4 h
  refine oS fun _ hK6=>?_;refine oS fun _ hK7=>?_;refine oW U0 ?_;simp only[go_sem];refine hK7 _ ?_;refine oC rfl ?_ ?_
  ·
   intro c0;obtain⟨i0,hi,hlt⟩:=hgd (by omega)
   have hst:m6 (ns.getD i0 (0,0,0,[])) ts (Q8 (ns.getD i0 (0,0,0,[])) ff (P6 (pi,ts,ns,os) cc ff (List.replicate ns.length 0) ((C6 ns).take k))) (cc.getD i0 []):=(s8 (p:=(pi,ts,ns,os)) hF hcc hff hkv.2 (i:=i0) hlt).c
   have hic:A9i (ns.getD i0 (0,0,0,[])) ff (P6 (pi,ts,ns,os) cc ff (List.replicate ns.length 0) ((C6 ns).take k)):=A4k (p:=(pi,ts,ns,os)) hF hfl hkv.1 (i:=i0) hlt
   have e1:P6 (pi,ts,ns,os) cc ff (List.replicate ns.length 0) ((C6 ns).take (k+1))=(P6 (pi,ts,ns,os) cc ff (List.replicate ns.length 0) ((C6 ns).take k)).set i0 (o7 (ns.getD i0 (0,0,0,[])).1 (ns.getD i0 (0,0,0,[])).2.1 ts (Q8 (ns.getD i0 (0,0,0,[])) ff (P6 (pi,ts,ns,os) cc ff (List.replicate ns.length 0) ((C6 ns).take k))) (cc.getD i0 [])):=by
     rw[hnx (by omega),hi]
     rfl
   refine A2 ?_;simp only[go_sem];refine hK6 _ ?_;refine oS fun _ hK8=>?_;refine A1 ?_;refine oS fun _ hK9=>?_;refine oW U0 ?_;simp (maxSteps:=2000000)only[hi,go_sem];repeat(with_reducible refine oA ?_)
   refine hK9 _ ?_;refine oS fun _ hK10=>?_;refine oW U0 ?_;simp (maxSteps:=2000000)only[go_sem];repeat(with_reducible refine oA ?_)
   refine hK10 _ ?_
   refine oR U0
     [[],[],[],[],[3],[3,4],[3,4,5],[],[],[],[7,8,9],[],[11],[11,12],[11,12,13],[],[11,12,13,14,15],[11,12,13,14,15,16],[2,3,4,5,6,7,8,9,10,11,12,13,14,15,16,17],[0,1,2,3,4,5,6,7,8,9,10,11,12,13,14,15,16,17,18],[0,1,2,3,4,5,6,7,8,9,10,11,12,13,14,15,16,17,18,19]]
     [[820,821,822,823,824,825,826,827,828,829,830,831,832,833,834,835],[820,821,822,823,824,825,826,827,828,829,830,831,832,833,834,835],[820,821,822,823,824,825,826,827,828,829,830,831,832,833,834,835],[820,821,822,823,824,825,826,827,828,829,830,831,832,833,834,835],[820,821,822,823,824,825,826,827,828,829,830,831,832,833,834,835],[820,821,822,823,824,825,826,827,828,829,830,831,832,833,834,835],[820,821,822,823,824,825,826,827,828,829,830,831,832,833,834,835],[],[],[],[],[820,821,822,823,824,825,826,827,828,829,830,831,832,833,834,835],[820,821,822,823,824,825,826,827,828,829,830,831,832,833,834,835],[820,821,822,823,824,825,826,827,828,829,830,831,832,833,834,835],[820,821,822,823,824,825,826,827,828,829,830,831,832,833,834,835],[820,821,822,823,824,825,826,827,828,829,830,831,832,833,834,835],[820,821,822,823,824,825,826,827,828,829,830,831,832,833,834,835],[820,821,822,823,824,825,826,827,828,829,830,831,832,833,834,835],[],[],[]]
     [[],[],[],[],[],[],[],[],[],[],[820,821,822,823,824,825,826,827,828,829,830,831,832,833,834,835],[],[],[],[],[],[],[],[],[],[]] (by kernel_rfl) (by kernel_rfl) (A9 (acc:=[]) ?_)
   simp (maxSteps:=2000000)only[List.nodup_nil,go_sem];repeat(with_reducible first|refine oD ?_|refine And.intro (by first|exact hic|exact hst) ?_)
   refine hK8 _ ?_;refine oW U0 ?_;simp only[go_sem];refine hL5 ⟨k+1,by omega⟩ _ (oK ?_) ?_
   ·
    simp (maxSteps:=2000000)only[go_sem];all_goals((repeat' refine And.intro ?_ ?_)<;>first|rfl|exact wk (by omega)|exact e1.symm)
   ·
    first|(simp only[];omega)|omega|(simp;omega)
  intro c0;refine B6 ?_;simp only[go_sem];refine hK3 _ ?_;refine oS fun _ hK11=>?_;refine oW U0 ?_;simp only[go_sem];refine hK11 _ ?_;refine A0 ?_;simp only[hres,go_sem];first|exact oF|(refine⟨?_,oF⟩;exact congrArg (P6 (pi,ts,ns,os) cc ff (List.replicate ns.length 0)) (List.take_of_length_le (by omega)))
def x9:E4:=fun f=>if f=110 then some (.p w5) else B2I f
theorem L0:B4 Tryz.prog x9:=E3 B2a (B0 Tryz.func110 rfl (by decide)) U0
attribute [go_sem] x9 w5
def A0T:GCon where
  ps:=[.ptr ((.prod (.int .i64) (.prod (.row 26 (.row 2 (.int .i64))) (.prod (.row 95 (.prod (.int .i64) (.prod (.int .i64) (.prod (.int .i64) (.row 2 (.int .i64)))))) (.row 2 (.int .i64)))))),.po 0,.val ((.row 2 (.int .i64))),.val ((.row 2 (.int .i64)))]
  os:=[.box [.rd ((.row 26 (.row 2 (.int .i64))))]]
  c:=fun x=>B9 x.1.1=true∧U3 x.1.1 x.2.1.1∧(x.1.2.2.1.length:Int)=x.1.1.1∧D9 x.1.2.2.1=true∧R6 x.1.1 x.1.2.2.2.1
  r:=fun _=>.tup []
  o:=fun x=>[(30,.box [.ow 10]),(10,.tree 26 (.row 2 (.int .i64)) (S6 x.1.1 x.2.1.1 x.1.2.2.1 x.1.2.2.2.1) none)]
  ok:=by
    rintro⟨⟨⟨(pi:Int),(ts:List (List Int)),(ns:List A6),(os:List Int)⟩,_,(ff:List Int),(vv:List Int),_⟩,⟨⟨(cc:List (List Int)),_⟩,_⟩⟩
    exact⟨rfl,rfl,by decide⟩
theorem B7O:Z2 Tryz.prog 111 A0T:=by
  refine E1 Tryz.func111 rfl ?_
  have hres:Tryz.f111.results.toList=[]:=rfl
  rintro⟨⟨⟨(pi:Int),(ts:List (List Int)),(ns:List A6),(os:List Int)⟩,_,(ff:List Int),(vv:List Int),_⟩,⟨⟨(cc:List (List Int)),_⟩,_⟩⟩ hc hL hO
  simp only[A0T,go_sem] at hL
  simp only[A0T,go_sem] at hO
  simp only[A0T,St.init,St.initG,Tryz.ntmps111,go_sem] 
  obtain⟨hP,hcc,hfl,hff,hvv⟩:=(show B9 (pi,ts,ns,os)=true∧U3 (pi,ts,ns,os) cc∧(ff.length:Int)=(pi,ts,ns,os).1∧D9 ff=true∧R6 (pi,ts,ns,os) vv from hc)
  obtain⟨hF,hol⟩:=B8 hP
  have hn24:ns.length≤24:=(A8 hF).1
  have hvl:vv.length=ns.length:=hvv.1
  have hsl:cc.length=ns.length:=hcc.1
  refine oS fun _ hK1=>?_;refine oW L0 ?_;simp only[List.nodup_nil,go_sem];repeat(with_reducible refine oA ?_)
  refine hK1 _ ?_;refine oS fun _ hK2=>?_;refine oS fun _ hK3=>?_;refine oW L0 ?_;simp only[go_sem];refine hK3 _ ?_;refine A1 ?_;refine A7 (ι:={ k:Nat // k≤ns.length }) (fun k=>⟨[.c (.pt [] ((.prod (.int .i64) (.prod (.row 26 (.row 2 (.int .i64))) (.prod (.row 95 (.prod (.int .i64) (.prod (.int .i64) (.prod (.int .i64) (.row 2 (.int .i64)))))) (.row 2 (.int .i64)))))) (pi,ts,ns,os) 0),.c (.po 30 0),.c (.rd [] 2 (.int .i64) (ff)),.c (.rd [] 2 (.int .i64) (vv)),zz,zz,zz,zz,.c (.ow 9001),.c (.sc (.int .i64 (k.1))),zz,zz,zz,zz,zz,zz,zz,zz,zz,zz,zz,zz,zz,zz,zz,zz,zz,zz,zz,zz,zz,zz,zz,zz,zz,zz,zz,zz,zz,zz,zz,zz,zz,zz,zz,zz,zz,zz,zz,zz,zz],[(30,.box [.rd [] 26 ((.row 2 (.int .i64))) (cc)]),(9001,.tree 26 (.row 2 (.int .i64)) ((List.range k.1).map (fun q=>w7 (pi,ts,ns,os) cc ff vv (vv.getD q 0) q)) none)]⟩) (fun k=>ns.length - k.1) ⟨0,by simp⟩ ?_ ?_
  ·
   refine oK ?_;simp (maxSteps:=2000000)only[go_sem];all_goals((repeat' refine And.intro ?_ ?_)<;>first|rfl|(congr 1;done)|(simp;done))
  rintro⟨k,hk⟩ K4 hL4
  have hrl:((List.range k).map (fun q=>w7 (pi,ts,ns,os) cc ff vv (vv.getD q 0) q)).length=k:=by rw[List.length_map,List.length_range]
  have hnx:(List.range (k+1)).map (fun q=>w7 (pi,ts,ns,os) cc ff vv (vv.getD q 0) q)=(List.range k).map (fun q=>w7 (pi,ts,ns,os) cc ff vv (vv.getD q 0) q)++[w7 (pi,ts,ns,os) cc ff vv (vv.getD k 0) k]:=by rw[List.range_succ,List.map_append];rfl
  refine oS fun _ hK5=>?_;refine oS fun _ hK6=>?_;refine oW L0 ?_;simp (maxSteps:=2000000)only[go_sem];repeat(with_reducible refine oA ?_)
  refine hK6 _ ?_;refine oC rfl ?_ ?_
  ·
   intro c0;have hst:∃tabs,m6 (ns.getD k (0,0,0,[])) tabs (Q8 (ns.getD k (0,0,0,[])) ff vv) (cc.getD k []):=⟨ts,(s8 (p:=(pi,ts,ns,os)) hF hcc hff hvv.2 (i:=k) (by show k < ns.length;omega)).c⟩
   have hic:A9i (ns.getD k (0,0,0,[])) ff vv:=A4k (p:=(pi,ts,ns,os)) hF hfl hvv.1 (i:=k) (by show k < ns.length;omega)
   refine A2 ?_;simp only[go_sem];refine hK5 _ ?_;refine oS fun _ hK7=>?_;refine A1 ?_;refine oS fun _ hK8=>?_;refine oW L0 ?_;simp (maxSteps:=2000000)only[go_sem];repeat(with_reducible refine oA ?_)
   refine hK8 _ ?_
   refine oR L0
     [[],[],[],[],[],[2,3,4],[],[6],[6,7],[6,7,8],[],[6,7,8,9,10],[6,7,8,9,10,11],[],[],[13,14],[13,14,15],[1,2,3,4,5,6,7,8,9,10,11,12,13,14,15,16],[1,2,3,4,5,6,7,8,9,10,11,12,13,14,15,16,17],[0,1,2,3,4,5,6,7,8,9,10,11,12,13,14,15,16,17,18],[0,1,2,3,4,5,6,7,8,9,10,11,12,13,14,15,16,17,18,19]]
     [[612,613,614,615,616,617,618,619,620,621,622,623,624,625,626,627,804,805,806,807,808,809,810,811,812,813,814,815,816,817,818,819,820],[612,613,614,615,616,617,618,619,620,621,622,623,624,625,626,627],[],[],[],[],[612,613,614,615,616,617,618,619,620,621,622,623,624,625,626,627],[612,613,614,615,616,617,618,619,620,621,622,623,624,625,626,627],[612,613,614,615,616,617,618,619,620,621,622,623,624,625,626,627],[612,613,614,615,616,617,618,619,620,621,622,623,624,625,626,627],[612,613,614,615,616,617,618,619,620,621,622,623,624,625,626,627],[612,613,614,615,616,617,618,619,620,621,622,623,624,625,626,627],[612,613,614,615,616,617,618,619,620,621,622,623,624,625,626,627],[612,613,614,615,616,617,618,619,620,621,622,623,624,625,626,627],[612,613,614,615,616,617,618,619,620,621,622,623,624,625,626,627],[612,613,614,615,616,617,618,619,620,621,622,623,624,625,626,627],[612,613,614,615,616,617,618,619,620,621,622,623,624,625,626,627],[],[],[],[]]
     [[],[],[],[],[],[612,613,614,615,616,617,618,619,620,621,622,623,624,625,626,627],[],[],[],[],[],[],[],[],[],[],[],[804,805,806,807,808,809,810,811,812,813,814,815,816,817,818,819],[612,613,614,615,616,617,618,619,620,621,622,623,624,625,626,627,804,805,806,807,808,809,810,811,812,813,814,815,816,817,818,819,820],[],[]] (by kernel_rfl) (by kernel_rfl) (A9 (acc:=[]) ?_)
   simp (maxSteps:=2000000)only[List.nodup_cons,List.nodup_nil,List.not_mem_nil,not_false_eq_true,go_sem];repeat(with_reducible first|refine oD ?_|refine And.intro (by first|exact hic|exact hst) ?_)
   refine hK7 _ ?_;refine oW L0 ?_;simp only[go_sem];refine hL4 ⟨k+1,by omega⟩ _ (oK ?_) ?_
   ·
    simp (maxSteps:=2000000)only[go_sem];all_goals((repeat' refine And.intro ?_ ?_)<;>first|rfl|exact wk (by omega)|(congr 1;exact hnx.symm)|exact hnx.symm)
   ·
    first|(simp only[];omega)|omega|(simp;omega)
  intro c0;refine B6 ?_;simp only[go_sem];refine hK2 _ ?_;refine oW L0 ?_;simp (maxSteps:=2000000)only[go_sem];repeat(with_reducible refine oA ?_)
  simp (maxSteps:=2000000)only[hres,go_sem]
  first
   | exact oG
   | refine ⟨oG, ?_⟩
     have hk3:k=ns.length:=by omega
     clear hK1 hK2 hK3 hL4 hK5 hK6;subst hk3
     (repeat' refine And.intro ?_ ?_)<;>first|rfl|(congr 1;done)
def A4R:E4:=fun f=>if f=111 then some (.g A0T) else x9 f
theorem A6A:B4 Tryz.prog A4R:=m8 B7O (B0 Tryz.func111 rfl (by decide)) L0
attribute [go_sem] A4R A0T
end Go.Proofs.YtgaogcnfijbahaaGreat
