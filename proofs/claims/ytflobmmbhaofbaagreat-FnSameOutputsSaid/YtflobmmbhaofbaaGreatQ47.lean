/-
  Texts of this claim, joined (part 47). No condition beyond those of the theorems.
-/
import Derived.Test.YtflobmmbhaofbaaGreatQ29
import Derived.Test.YtflobmmbhaofbaaGreatQ46
import Derived.Test.YtflobmmbhaofbaaGreatQ06
import Derived.Test.YtflobmmbhaofbaaGreatQ09
import Derived.Test.YtflobmmbhaofbaaGreatQ05
namespace Go.Proofs.YtflobmmbhaofbaaGreat
open Go.RowKit
set_option linter.unusedSimpArgs false
set_option linter.unusedVariables false
set_option maxRecDepth 100000
set_option maxHeartbeats 4000000
def B2K:F8:=fun f=>match A5P f with
 | some k=>some k
 | none=>A5g f
theorem B5m:B8 Tryz.prog B2K:=T3 O8 B1m
attribute [go_sem] B2K T0
def B20:F8:=fun f=>match B2K f with
 | some k=>some k
 | none=>A5w f
theorem R7:B8 Tryz.prog B20:=T3 B5m B0q
attribute [go_sem] B20 T0
def t5:Con:=⟨[.ptr (.prod (.int .i64) (.prod (.row 26 (.row 2 (.int .i64))) (.prod (.row 56 (.prod (.int .i64) (.prod (.int .i64) (.prod (.int .i64) (.row 2 (.int .i64)))))) (.row 2 (.int .i64))))),.val ((.row 2 (.int .i64))),.ptr (.row 26 (.row 2 (.int .i64))),.val ((.row 2 (.int .i64)))],[⟨(.row 2 (.int .i64)),true⟩],fun x=>C7 x.1=true∧x.2.1=O4 x.1.2.2.1∧A3g x.1 x.2.2.1∧(x.2.2.2.1.length:Int)=x.1.1∧S8 x.2.2.2.1=true,fun x=>U8 x.1 x.2.2.1 x.2.2.2.1⟩
theorem B1Z:D4 Tryz.prog 72 t5:=by
  refine A7 Tryz.func72 rfl ?_
  have hres:Tryz.f72.results.toList=[.tmp 8]:=rfl
  rintro⟨⟨(pi:Int),(ts:List (List Int)),(ns:List A4),(os:List Int)⟩,(oo:List Int),(cc:List (List Int)),(ff:List Int),_⟩ hc hL
  simp only[t5,go_sem] at hL
  simp only[t5,St.init,St.initG,Tryz.ntmps72,go_sem] 
  obtain⟨hP,hoo,hcc,hfl,hff⟩:=(show C7 (pi,ts,ns,os)=true∧oo=O4 (pi,ts,ns,os).2.2.1∧A3g (pi,ts,ns,os) cc∧(ff.length:Int)=(pi,ts,ns,os).1∧S8 ff=true from hc)
  have hoo:oo=O4 ns:=hoo
  subst hoo;obtain⟨hF,hol⟩:=A9 hP
  have hol:(O4 ns).length=ns.length:=hol
  have hn24:ns.length≤24:=(A8 hF).1
  refine oS fun _ hK1=>?_;refine oW R7 ?_;simp only[go_sem];refine hK1 _ ?_;refine oS fun _ hK2=>?_;refine oW R7 ?_;simp (maxSteps:=2000000)only[List.nodup_nil,go_sem];repeat(with_reducible refine oA ?_)
  refine hK2 _ ?_;refine oS fun _ hK3=>?_;refine oS fun _ hK4=>?_;refine oW R7 ?_;simp only[go_sem];refine hK4 _ ?_;refine A5 ?_;refine B4 (ι:={ k:Nat // k≤(O4 ns).length }) (fun k=>⟨[.c (.pt [] ((.prod (.int .i64) (.prod (.row 26 (.row 2 (.int .i64))) (.prod (.row 56 (.prod (.int .i64) (.prod (.int .i64) (.prod (.int .i64) (.row 2 (.int .i64)))))) (.row 2 (.int .i64)))))) (pi,ts,ns,os) 0),.c (.rd [] 2 (.int .i64) (O4 ns)),.c (.pt [] ((.row 26 (.row 2 (.int .i64)))) cc 0),.c (.rd [] 2 (.int .i64) (ff)),zz,zz,zz,zz,zz,.c (.ow 9001),.c (.sc (.int .i64 (k.1))),zz,zz,zz,zz,zz,zz,zz,zz,zz,zz,zz,zz,zz,zz,zz,zz,zz,zz,zz,zz,zz,zz,zz,zz,zz,zz,zz,zz,zz,zz,zz,zz,zz,zz,zz,zz,zz,zz,zz,zz,zz,zz,zz,zz,zz],[(9001,.row 2 (.int .i64) ((Y4 (pi,ts,ns,os) cc ff (List.replicate ns.length 0) ((O4 ns).take k.1))) [])]⟩) (fun k=>(O4 ns).length - k.1) ⟨0,by simp⟩ ?_ ?_
  ·
   refine oK ?_;simp (maxSteps:=2000000)only[go_sem];all_goals(first|rfl|((repeat' refine And.intro ?_ ?_)<;>first|rfl|simp))
  rintro⟨k,hk⟩ K5 hL5
  have hkv:=B4F (p:=(pi,ts,ns,os)) (s:=cc) (fr:=ff) hF hcc hff (U9 (pi,ts,ns,os)) k hk
  have hvl:(Y4 (pi,ts,ns,os) cc ff (List.replicate ns.length 0) ((O4 ns).take k)).length=ns.length:=hkv.1
  have hsl:cc.length=ns.length:=hcc.1
  have hgd:k < (O4 ns).length→∃i0:Nat,(O4 ns).getD k 0=(i0:Int)∧i0 < ns.length:=fun h=>by obtain⟨q,h1,h2,_⟩:=A1q ns k h;exact⟨q,h1,h2⟩
  have hnx:k < (O4 ns).length→Y4 (pi,ts,ns,os) cc ff (List.replicate ns.length 0) ((O4 ns).take (k+1))=o5 (pi,ts,ns,os) cc ff (Y4 (pi,ts,ns,os) cc ff (List.replicate ns.length 0) ((O4 ns).take k)) ((O4 ns).getD k 0):=fun h=>A4X h
  refine oS fun _ hK6=>?_;refine oS fun _ hK7=>?_;refine oW R7 ?_;simp only[go_sem];refine hK7 _ ?_;refine oC rfl ?_ ?_
  ·
   intro c0;obtain⟨i0,hi,hlt⟩:=hgd (by omega)
   have hst:A3h (ns.getD i0 (0,0,0,[])) ts (j6 (ns.getD i0 (0,0,0,[])) ff (Y4 (pi,ts,ns,os) cc ff (List.replicate ns.length 0) ((O4 ns).take k))) (cc.getD i0 []):=(A7T (p:=(pi,ts,ns,os)) hF hcc hff hkv.2 (i:=i0) hlt).c
   have hic:C0d (ns.getD i0 (0,0,0,[])) ff (Y4 (pi,ts,ns,os) cc ff (List.replicate ns.length 0) ((O4 ns).take k)):=B6H (p:=(pi,ts,ns,os)) hF hfl hkv.1 (i:=i0) hlt
   have e1:Y4 (pi,ts,ns,os) cc ff (List.replicate ns.length 0) ((O4 ns).take (k+1))=(Y4 (pi,ts,ns,os) cc ff (List.replicate ns.length 0) ((O4 ns).take k)).set i0 (A2f (ns.getD i0 (0,0,0,[])).1 (ns.getD i0 (0,0,0,[])).2.1 ts (j6 (ns.getD i0 (0,0,0,[])) ff (Y4 (pi,ts,ns,os) cc ff (List.replicate ns.length 0) ((O4 ns).take k))) (cc.getD i0 [])):=by
     rw[hnx (by omega),hi]
     rfl
   refine A3 ?_;simp only[go_sem];refine hK6 _ ?_;refine oS fun _ hK8=>?_;refine A5 ?_;refine oS fun _ hK9=>?_;refine oW R7 ?_;simp (maxSteps:=2000000)only[hi,go_sem];repeat(with_reducible refine oA ?_)
   refine hK9 _ ?_;refine oS fun _ hK10=>?_;refine oW R7 ?_;simp (maxSteps:=2000000)only[go_sem];repeat(with_reducible refine oA ?_)
   refine hK10 _ ?_
   refine oR R7
     [[],[],[],[],[3],[3,4],[3,4,5],[],[],[],[7,8,9],[],[11],[11,12],[11,12,13],[],[11,12,13,14,15],[11,12,13,14,15,16],[2,3,4,5,6,7,8,9,10,11,12,13,14,15,16,17],[0,1,2,3,4,5,6,7,8,9,10,11,12,13,14,15,16,17,18],[0,1,2,3,4,5,6,7,8,9,10,11,12,13,14,15,16,17,18,19]]
     [[820,821,822,823,824,825,826,827,828,829,830,831,832,833,834,835],[820,821,822,823,824,825,826,827,828,829,830,831,832,833,834,835],[820,821,822,823,824,825,826,827,828,829,830,831,832,833,834,835],[820,821,822,823,824,825,826,827,828,829,830,831,832,833,834,835],[820,821,822,823,824,825,826,827,828,829,830,831,832,833,834,835],[820,821,822,823,824,825,826,827,828,829,830,831,832,833,834,835],[820,821,822,823,824,825,826,827,828,829,830,831,832,833,834,835],[],[],[],[],[820,821,822,823,824,825,826,827,828,829,830,831,832,833,834,835],[820,821,822,823,824,825,826,827,828,829,830,831,832,833,834,835],[820,821,822,823,824,825,826,827,828,829,830,831,832,833,834,835],[820,821,822,823,824,825,826,827,828,829,830,831,832,833,834,835],[820,821,822,823,824,825,826,827,828,829,830,831,832,833,834,835],[820,821,822,823,824,825,826,827,828,829,830,831,832,833,834,835],[820,821,822,823,824,825,826,827,828,829,830,831,832,833,834,835],[],[],[]]
     [[],[],[],[],[],[],[],[],[],[],[820,821,822,823,824,825,826,827,828,829,830,831,832,833,834,835],[],[],[],[],[],[],[],[],[],[]] (by kernel_rfl) (by kernel_rfl) (B7 (acc:=[]) ?_)
   simp (maxSteps:=2000000)only[List.nodup_nil,go_sem];repeat(with_reducible first|refine oD ?_|refine And.intro (by first|exact hic|exact hst) ?_)
   refine hK8 _ ?_;refine oW R7 ?_;simp only[go_sem];refine hL5 ⟨k+1,by omega⟩ _ (oK ?_) ?_
   ·
    simp (maxSteps:=2000000)only[go_sem];all_goals((repeat' refine And.intro ?_ ?_)<;>first|rfl|exact wk (by omega)|exact e1.symm)
   ·
    first|(simp only[];omega)|omega|(simp;omega)
  intro c0;refine C2 ?_;simp only[go_sem];refine hK3 _ ?_;refine oS fun _ hK11=>?_;refine oW R7 ?_;simp only[go_sem];refine hK11 _ ?_;refine A2 ?_;simp only[hres,go_sem];first|exact oF|(refine⟨?_,oF⟩;exact congrArg (Y4 (pi,ts,ns,os) cc ff (List.replicate ns.length 0)) (List.take_of_length_le (by omega)))
def w7:F8:=fun f=>if f=72 then some (.p t5) else B20 f
theorem J8:B8 Tryz.prog w7:=F9 B1Z (B6 Tryz.func72 rfl (by decide)) R7
attribute [go_sem] w7 t5
def A00:GCon where
  ps:=[.ptr ((.prod (.int .i64) (.prod (.row 26 (.row 2 (.int .i64))) (.prod (.row 56 (.prod (.int .i64) (.prod (.int .i64) (.prod (.int .i64) (.row 2 (.int .i64)))))) (.row 2 (.int .i64)))))),.po 0,.val ((.row 2 (.int .i64))),.val ((.row 2 (.int .i64)))]
  os:=[.box [.rd ((.row 26 (.row 2 (.int .i64))))]]
  c:=fun x=>C7 x.1.1=true∧A3g x.1.1 x.2.1.1∧(x.1.2.2.1.length:Int)=x.1.1.1∧S8 x.1.2.2.1=true∧A1x x.1.1 x.1.2.2.2.1
  r:=fun _=>.tup []
  o:=fun x=>[(30,.box [.ow 10]),(10,.tree 26 (.row 2 (.int .i64)) (A3i x.1.1 x.2.1.1 x.1.2.2.1 x.1.2.2.2.1) none)]
  ok:=by
    rintro⟨⟨⟨(pi:Int),(ts:List (List Int)),(ns:List A4),(os:List Int)⟩,_,(ff:List Int),(vv:List Int),_⟩,⟨⟨(cc:List (List Int)),_⟩,_⟩⟩
    exact⟨rfl,rfl,by decide⟩
theorem B56:W3 Tryz.prog 73 A00:=by
  refine D8 Tryz.func73 rfl ?_
  have hres:Tryz.f73.results.toList=[]:=rfl
  rintro⟨⟨⟨(pi:Int),(ts:List (List Int)),(ns:List A4),(os:List Int)⟩,_,(ff:List Int),(vv:List Int),_⟩,⟨⟨(cc:List (List Int)),_⟩,_⟩⟩ hc hL hO
  simp only[A00,go_sem] at hL
  simp only[A00,go_sem] at hO
  simp only[A00,St.init,St.initG,Tryz.ntmps73,go_sem] 
  obtain⟨hP,hcc,hfl,hff,hvv⟩:=(show C7 (pi,ts,ns,os)=true∧A3g (pi,ts,ns,os) cc∧(ff.length:Int)=(pi,ts,ns,os).1∧S8 ff=true∧A1x (pi,ts,ns,os) vv from hc)
  obtain⟨hF,hol⟩:=A9 hP
  have hn24:ns.length≤24:=(A8 hF).1
  have hvl:vv.length=ns.length:=hvv.1
  have hsl:cc.length=ns.length:=hcc.1
  refine oS fun _ hK1=>?_;refine oW J8 ?_;simp only[List.nodup_nil,go_sem];repeat(with_reducible refine oA ?_)
  refine hK1 _ ?_;refine oS fun _ hK2=>?_;refine oS fun _ hK3=>?_;refine oW J8 ?_;simp only[go_sem];refine hK3 _ ?_;refine A5 ?_;refine B4 (ι:={ k:Nat // k≤ns.length }) (fun k=>⟨[.c (.pt [] ((.prod (.int .i64) (.prod (.row 26 (.row 2 (.int .i64))) (.prod (.row 56 (.prod (.int .i64) (.prod (.int .i64) (.prod (.int .i64) (.row 2 (.int .i64)))))) (.row 2 (.int .i64)))))) (pi,ts,ns,os) 0),.c (.po 30 0),.c (.rd [] 2 (.int .i64) (ff)),.c (.rd [] 2 (.int .i64) (vv)),zz,zz,zz,zz,.c (.ow 9001),.c (.sc (.int .i64 (k.1))),zz,zz,zz,zz,zz,zz,zz,zz,zz,zz,zz,zz,zz,zz,zz,zz,zz,zz,zz,zz,zz,zz,zz,zz,zz,zz,zz,zz,zz,zz,zz,zz,zz,zz,zz,zz,zz,zz,zz,zz,zz],[(30,.box [.rd [] 26 ((.row 2 (.int .i64))) (cc)]),(9001,.tree 26 (.row 2 (.int .i64)) ((List.range k.1).map (fun q=>A6t (pi,ts,ns,os) cc ff vv (vv.getD q 0) q)) none)]⟩) (fun k=>ns.length - k.1) ⟨0,by simp⟩ ?_ ?_
  ·
   refine oK ?_;simp (maxSteps:=2000000)only[go_sem];all_goals((repeat' refine And.intro ?_ ?_)<;>first|rfl|(congr 1;done)|(simp;done))
  rintro⟨k,hk⟩ K4 hL4
  have hrl:((List.range k).map (fun q=>A6t (pi,ts,ns,os) cc ff vv (vv.getD q 0) q)).length=k:=by rw[List.length_map,List.length_range]
  have hnx:(List.range (k+1)).map (fun q=>A6t (pi,ts,ns,os) cc ff vv (vv.getD q 0) q)=(List.range k).map (fun q=>A6t (pi,ts,ns,os) cc ff vv (vv.getD q 0) q)++[A6t (pi,ts,ns,os) cc ff vv (vv.getD k 0) k]:=by rw[List.range_succ,List.map_append];rfl
  refine oS fun _ hK5=>?_;refine oS fun _ hK6=>?_;refine oW J8 ?_;simp (maxSteps:=2000000)only[go_sem];repeat(with_reducible refine oA ?_)
  refine hK6 _ ?_;refine oC rfl ?_ ?_
  ·
   intro c0;have hst:∃tabs,A3h (ns.getD k (0,0,0,[])) tabs (j6 (ns.getD k (0,0,0,[])) ff vv) (cc.getD k []):=⟨ts,(A7T (p:=(pi,ts,ns,os)) hF hcc hff hvv.2 (i:=k) (by show k < ns.length;omega)).c⟩
   have hic:C0d (ns.getD k (0,0,0,[])) ff vv:=B6H (p:=(pi,ts,ns,os)) hF hfl hvv.1 (i:=k) (by show k < ns.length;omega)
   refine A3 ?_;simp only[go_sem];refine hK5 _ ?_;refine oS fun _ hK7=>?_;refine A5 ?_;refine oS fun _ hK8=>?_;refine oW J8 ?_;simp (maxSteps:=2000000)only[go_sem];repeat(with_reducible refine oA ?_)
   refine hK8 _ ?_
   refine oR J8
     [[],[],[],[],[],[2,3,4],[],[6],[6,7],[6,7,8],[],[6,7,8,9,10],[6,7,8,9,10,11],[],[],[13,14],[13,14,15],[1,2,3,4,5,6,7,8,9,10,11,12,13,14,15,16],[1,2,3,4,5,6,7,8,9,10,11,12,13,14,15,16,17],[0,1,2,3,4,5,6,7,8,9,10,11,12,13,14,15,16,17,18],[0,1,2,3,4,5,6,7,8,9,10,11,12,13,14,15,16,17,18,19]]
     [[612,613,614,615,616,617,618,619,620,621,622,623,624,625,626,627,804,805,806,807,808,809,810,811,812,813,814,815,816,817,818,819,820],[612,613,614,615,616,617,618,619,620,621,622,623,624,625,626,627],[],[],[],[],[612,613,614,615,616,617,618,619,620,621,622,623,624,625,626,627],[612,613,614,615,616,617,618,619,620,621,622,623,624,625,626,627],[612,613,614,615,616,617,618,619,620,621,622,623,624,625,626,627],[612,613,614,615,616,617,618,619,620,621,622,623,624,625,626,627],[612,613,614,615,616,617,618,619,620,621,622,623,624,625,626,627],[612,613,614,615,616,617,618,619,620,621,622,623,624,625,626,627],[612,613,614,615,616,617,618,619,620,621,622,623,624,625,626,627],[612,613,614,615,616,617,618,619,620,621,622,623,624,625,626,627],[612,613,614,615,616,617,618,619,620,621,622,623,624,625,626,627],[612,613,614,615,616,617,618,619,620,621,622,623,624,625,626,627],[612,613,614,615,616,617,618,619,620,621,622,623,624,625,626,627],[],[],[],[]]
     [[],[],[],[],[],[612,613,614,615,616,617,618,619,620,621,622,623,624,625,626,627],[],[],[],[],[],[],[],[],[],[],[],[804,805,806,807,808,809,810,811,812,813,814,815,816,817,818,819],[612,613,614,615,616,617,618,619,620,621,622,623,624,625,626,627,804,805,806,807,808,809,810,811,812,813,814,815,816,817,818,819,820],[],[]] (by kernel_rfl) (by kernel_rfl) (B7 (acc:=[]) ?_)
   simp (maxSteps:=2000000)only[List.nodup_cons,List.nodup_nil,List.not_mem_nil,not_false_eq_true,go_sem];repeat(with_reducible first|refine oD ?_|refine And.intro (by first|exact hic|exact hst) ?_)
   refine hK7 _ ?_;refine oW J8 ?_;simp only[go_sem];refine hL4 ⟨k+1,by omega⟩ _ (oK ?_) ?_
   ·
    simp (maxSteps:=2000000)only[go_sem];all_goals((repeat' refine And.intro ?_ ?_)<;>first|rfl|exact wk (by omega)|(congr 1;exact hnx.symm)|exact hnx.symm)
   ·
    first|(simp only[];omega)|omega|(simp;omega)
  intro c0;refine C2 ?_;simp only[go_sem];refine hK2 _ ?_;refine oW J8 ?_;simp (maxSteps:=2000000)only[go_sem];repeat(with_reducible refine oA ?_)
  simp (maxSteps:=2000000)only[hres,go_sem]
  first
   | exact oG
   | refine ⟨oG, ?_⟩
     have hk3:k=ns.length:=by omega
     clear hK1 hK2 hK3 hL4 hK5 hK6;subst hk3
     (repeat' refine And.intro ?_ ?_)<;>first|rfl|(congr 1;done)
def A6P:F8:=fun f=>if f=73 then some (.g A00) else w7 f
theorem B1x:B8 Tryz.prog A6P:=a8 B56 (B6 Tryz.func73 rfl (by decide)) J8
attribute [go_sem] A6P A00
set_option maxRecDepth 100000
set_option maxHeartbeats 1000000
def A7h:F8:=fun f=>match A0D f with
 | some k=>some k
 | none=>y7 f
theorem B3A:B8 Tryz.prog A7h:=T3 C4 D5
attribute [go_sem] A7h T0
def A7V:F8:=fun f=>match A7h f with
 | some k=>some k
 | none=>A2t f
theorem w6:B8 Tryz.prog A7V:=T3 B3A H0
attribute [go_sem] A7V T0
def A4f:Con:=⟨[.val ((.row 2 (.int .i64))),.val (.int .i64)],[⟨.int .i64,true⟩],fun x=>O7 x.2.1 0 9223372036854775807=true,fun x=>x.1.getD (Int.toNat x.2.1) 0⟩
theorem C1D:D4 Tryz.prog 71 A4f:=by
  refine A7 Tryz.func71 rfl ?_
  have hres:Tryz.f71.results.toList=[.tmp 4]:=rfl
  rintro⟨(xs:List Int),(x:Int),_⟩ hc hL
  simp only[A4f,go_sem] at hL
  obtain lxs:=hL
  simp only[A4f,St.init,St.initG,Tryz.ntmps71,go_sem] 
  have hx:0≤x:=(E0.1 (show O7 x _ _=true from hc)).1
  have hw:IntKind.i64.wrap ((xs.length:Int) - 1)=xs.length - 1:=G9 (by omega)
  refine oS fun _ hK1=>?_;refine oW w6 ?_;simp only[go_sem];refine hK1 _ ?_;refine oS fun _ hK2=>?_;refine oS fun _ hK3=>?_;refine oW w6 ?_;simp (maxSteps:=2000000)only[hw,go_sem];repeat(with_reducible refine oA ?_)
  refine hK3 _ ?_;refine oC rfl ?_ ?_
  ·
   intro c0;have hq:xs.length≤x.toNat:=by have:=B7N.1 c0;omega
   refine oS fun _ hK4=>?_;refine oW w6 ?_;simp only[go_sem];refine hK4 _ ?_;refine A2 ?_;simp only[hres,go_sem];first|exact oF|(refine⟨?_,oF⟩;exact(B3Z hq).symm)
  intro c0;obtain⟨hq1,hq2⟩:=E0.1 c0
  refine A3 ?_;simp only[go_sem];refine hK2 _ ?_;refine oS fun _ hK5=>?_;refine oW w6 ?_;simp (maxSteps:=2000000)only[go_sem];repeat(with_reducible refine oA ?_)
  refine hK5 _ ?_;refine A2 ?_;simp only[hres,go_sem];first|exact oF|exact oFr
def B18:F8:=fun f=>if f=71 then some (.p A4f) else A7V f
theorem W1:B8 Tryz.prog B18:=F9 C1D (B6 Tryz.func71 rfl (by decide)) w6
attribute [go_sem] B18 A4f
def d8:Con:=⟨[.ptr (.prod (.int .i64) (.prod (.row 26 (.row 2 (.int .i64))) (.prod (.row 56 (.prod (.int .i64) (.prod (.int .i64) (.prod (.int .i64) (.row 2 (.int .i64)))))) (.row 2 (.int .i64))))),.val ((.row 26 (.row 2 (.int .i64))))],[⟨.bool,true⟩],fun _=>True,fun x=>A6g x.1 x.2.1⟩
theorem A9g:D4 Tryz.prog 23 d8:=by
  refine A7 Tryz.func23 rfl ?_
  have hres:Tryz.f23.results.toList=[.tmp 4]:=rfl
  rintro⟨⟨(pi:Int),(ts:List (List Int)),(ns:List A4),(os:List Int)⟩,(ins:List (List Int)),_⟩ hc hL
  simp only[d8,go_sem] at hL
  simp only[d8,St.init,St.initG,Tryz.ntmps23,go_sem] 
  refine oS fun _ hK1=>?_;refine oW W1 ?_;simp only[go_sem];refine hK1 _ ?_;refine oS fun _ hK2=>?_;refine oS fun _ hK3=>?_;refine oW W1 ?_;simp only[go_sem];refine hK3 _ ?_;refine A5 ?_;refine B4 (ι:={ k:Nat // k≤ins.length∧(ins.take k).all A85=true }) (fun k=>⟨[.c (.pt [] ((.prod (.int .i64) (.prod (.row 26 (.row 2 (.int .i64))) (.prod (.row 56 (.prod (.int .i64) (.prod (.int .i64) (.prod (.int .i64) (.row 2 (.int .i64)))))) (.row 2 (.int .i64)))))) (pi,ts,ns,os) 0),.c (.rd [] 26 (.row 2 (.int .i64)) (ins)),zz,zz,zz,.c (.sc (.int .i64 (k.1))),zz,zz,zz,zz,zz,zz,zz,zz,zz,zz,zz,zz,zz,zz,zz,zz,zz,zz,zz],[]⟩) (fun k=>ins.length - k.1) ⟨0,by simp⟩ ?_ ?_
  ·
   refine oK ?_;simp (maxSteps:=2000000)only[go_sem];all_goals(first|rfl|((repeat' refine And.intro ?_ ?_)<;>first|rfl|simp))
  rintro⟨k,hk,hp⟩ K4 hL4
  refine oS fun _ hK5=>?_;refine oS fun _ hK6=>?_;refine oW W1 ?_;simp only[go_sem];refine hK6 _ ?_;refine oC rfl ?_ ?_
  ·
   intro c0;refine A3 ?_;simp only[go_sem];refine hK5 _ ?_;refine oS fun _ hK7=>?_;refine A5 ?_;refine oS fun _ hK8=>?_;refine oW W1 ?_;simp (maxSteps:=2000000)only[go_sem];repeat(with_reducible refine oA ?_)
   refine hK8 _ ?_;refine oC rfl ?_ ?_
   ·
    intro c1;refine oS fun _ hK9=>?_;refine oW W1 ?_;simp only[go_sem];refine hK9 _ ?_;refine A2 ?_;simp only[hres,go_sem]
    first
     | exact oF
     | refine ⟨?_, oF⟩
       have hal:ins.all A85=false:=W7 (k:=k) (d:=[]) (by omega) (by first|assumption|(clear hK1 hK2 hK3 hL4 hK5 hK6 hK7 hK8 hK9;simp_all))
       unfold A6g;rw[hal,Bool.and_false]
   intro c1;refine A3 ?_;simp only[go_sem];refine hK7 _ ?_;refine oW W1 ?_;simp only[go_sem];refine hL4 ⟨k+1,by omega,Q8 (d:=[]) (by omega) hp (by first|assumption|(clear hK1 hK2 hK3 hL4 hK5 hK6 hK7 hK8;simp_all))⟩ _ (oK ?_) ?_
   ·
    simp (maxSteps:=2000000)only[go_sem];first|rfl|exact wk (by omega)
   ·
    first|(simp only[];omega)|omega|(simp;omega)
  intro c0;refine C2 ?_;simp only[go_sem];refine hK2 _ ?_;refine oS fun _ hK10=>?_;refine oW W1 ?_;simp (maxSteps:=2000000)only[go_sem];repeat(with_reducible refine oA ?_)
  refine hK10 _ ?_;refine A2 ?_;simp only[hres,go_sem]
  first
   | exact oF
   | refine ⟨?_, oF⟩
     have hal:ins.all A85=true:=P2 hp (by omega)
     unfold A6g;rw[hal,Bool.and_true]
def y9:F8:=fun f=>if f=23 then some (.p d8) else B18 f
theorem A2I:B8 Tryz.prog y9:=F9 A9g (B6 Tryz.func23 rfl (by decide)) W1
attribute [go_sem] y9 d8
end Go.Proofs.YtflobmmbhaofbaaGreat
