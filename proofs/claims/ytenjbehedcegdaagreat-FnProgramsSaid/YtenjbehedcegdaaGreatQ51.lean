/-
  Texts of this claim, joined (part 51). No condition beyond those of the theorems.
-/
import Derived.Test.YtenjbehedcegdaaGreatQ49
import Derived.Test.YtenjbehedcegdaaGreatQ50
namespace Go.Proofs.YtenjbehedcegdaaGreat
open Go.RowKit
set_option linter.unusedSimpArgs false
set_option linter.unusedVariables false
set_option maxRecDepth 100000
set_option maxHeartbeats 4000000
def A84:G4:=fun f=>match A5l f with
 | some k=>some k
 | none=>A4L f
theorem B20:B5 Tryz.prog A84:=W6 B0g A8w
attribute [go_sem] A84 T0
def A8d:G4:=fun f=>match A84 f with
 | some k=>some k
 | none=>A4P f
theorem P2:B5 Tryz.prog A8d:=W6 B20 A8L
attribute [go_sem] A8d T0
def d7:Con:=⟨[.ptr (.prod (.int .i64) (.prod (.row 26 (.row 2 (.int .i64))) (.prod (.row 67 (.prod (.int .i64) (.prod (.int .i64) (.prod (.int .i64) (.row 2 (.int .i64)))))) (.row 2 (.int .i64))))),.val ((.row 2 (.int .i64))),.ptr (.row 26 (.row 2 (.int .i64))),.val ((.row 2 (.int .i64)))],[⟨(.row 2 (.int .i64)),true⟩],fun x=>G3 x.1=true∧x.2.1=E3 x.1.2.2.1∧A2L x.1 x.2.2.1∧(x.2.2.2.1.length:Int)=x.1.1∧I9 x.2.2.2.1=true,fun x=>T7 x.1 x.2.2.1 x.2.2.2.1⟩
theorem A8z:C8 Tryz.prog 86 d7:=by
  refine A4 Tryz.func86 rfl ?_
  have hres:Tryz.f86.results.toList=[.tmp 8]:=rfl
  rintro⟨⟨(pi:Int),(ts:List (List Int)),(ns:List B1),(os:List Int)⟩,(oo:List Int),(cc:List (List Int)),(ff:List Int),_⟩ hc hL
  simp only[d7,go_sem] at hL
  simp only[d7,St.init,St.initG,Tryz.ntmps86,go_sem] 
  obtain⟨hP,hoo,hcc,hfl,hff⟩:=(show G3 (pi,ts,ns,os)=true∧oo=E3 (pi,ts,ns,os).2.2.1∧A2L (pi,ts,ns,os) cc∧(ff.length:Int)=(pi,ts,ns,os).1∧I9 ff=true from hc)
  have hoo:oo=E3 ns:=hoo
  subst hoo;obtain⟨hF,hol⟩:=E1 hP
  have hol:(E3 ns).length=ns.length:=hol
  have hn24:ns.length≤24:=(C0 hF).1
  refine oS fun _ hK1=>?_;refine oW P2 ?_;simp only[go_sem];refine hK1 _ ?_;refine oS fun _ hK2=>?_;refine oW P2 ?_;simp (maxSteps:=2000000)only[List.nodup_nil,go_sem];repeat(with_reducible refine oA ?_)
  refine hK2 _ ?_;refine oS fun _ hK3=>?_;refine oS fun _ hK4=>?_;refine oW P2 ?_;simp only[go_sem];refine hK4 _ ?_;refine A3 ?_;refine A8 (ι:={ k:Nat // k≤(E3 ns).length }) (fun k=>⟨[.c (.pt [] ((.prod (.int .i64) (.prod (.row 26 (.row 2 (.int .i64))) (.prod (.row 67 (.prod (.int .i64) (.prod (.int .i64) (.prod (.int .i64) (.row 2 (.int .i64)))))) (.row 2 (.int .i64)))))) (pi,ts,ns,os) 0),.c (.rd [] 2 (.int .i64) (E3 ns)),.c (.pt [] ((.row 26 (.row 2 (.int .i64)))) cc 0),.c (.rd [] 2 (.int .i64) (ff)),zz,zz,zz,zz,zz,.c (.ow 9001),.c (.sc (.int .i64 (k.1))),zz,zz,zz,zz,zz,zz,zz,zz,zz,zz,zz,zz,zz,zz,zz,zz,zz,zz,zz,zz,zz,zz,zz,zz,zz,zz,zz,zz,zz,zz,zz,zz,zz,zz,zz,zz,zz,zz,zz,zz,zz,zz,zz,zz,zz],[(9001,.row 2 (.int .i64) ((U4 (pi,ts,ns,os) cc ff (List.replicate ns.length 0) ((E3 ns).take k.1))) [])]⟩) (fun k=>(E3 ns).length - k.1) ⟨0,by simp⟩ ?_ ?_
  ·
   refine oK ?_;simp (maxSteps:=2000000)only[go_sem];all_goals(first|rfl|((repeat' refine And.intro ?_ ?_)<;>first|rfl|simp))
  rintro⟨k,hk⟩ K5 hL5
  have hkv:=B11 (p:=(pi,ts,ns,os)) (s:=cc) (fr:=ff) hF hcc hff (R4 (pi,ts,ns,os)) k hk
  have hvl:(U4 (pi,ts,ns,os) cc ff (List.replicate ns.length 0) ((E3 ns).take k)).length=ns.length:=hkv.1
  have hsl:cc.length=ns.length:=hcc.1
  have hgd:k < (E3 ns).length→∃i0:Nat,(E3 ns).getD k 0=(i0:Int)∧i0 < ns.length:=fun h=>by obtain⟨q,h1,h2,_⟩:=W2 ns k h;exact⟨q,h1,h2⟩
  have hnx:k < (E3 ns).length→U4 (pi,ts,ns,os) cc ff (List.replicate ns.length 0) ((E3 ns).take (k+1))=Z9 (pi,ts,ns,os) cc ff (U4 (pi,ts,ns,os) cc ff (List.replicate ns.length 0) ((E3 ns).take k)) ((E3 ns).getD k 0):=fun h=>A31 h
  refine oS fun _ hK6=>?_;refine oS fun _ hK7=>?_;refine oW P2 ?_;simp only[go_sem];refine hK7 _ ?_;refine oC rfl ?_ ?_
  ·
   intro c0;obtain⟨i0,hi,hlt⟩:=hgd (by omega)
   have hst:X2 (ns.getD i0 (0,0,0,[])) ts (A0N (ns.getD i0 (0,0,0,[])) ff (U4 (pi,ts,ns,os) cc ff (List.replicate ns.length 0) ((E3 ns).take k))) (cc.getD i0 []):=(A5J (p:=(pi,ts,ns,os)) hF hcc hff hkv.2 (i:=i0) hlt).c
   have hic:B5H (ns.getD i0 (0,0,0,[])) ff (U4 (pi,ts,ns,os) cc ff (List.replicate ns.length 0) ((E3 ns).take k)):=B2S (p:=(pi,ts,ns,os)) hF hfl hkv.1 (i:=i0) hlt
   have e1:U4 (pi,ts,ns,os) cc ff (List.replicate ns.length 0) ((E3 ns).take (k+1))=(U4 (pi,ts,ns,os) cc ff (List.replicate ns.length 0) ((E3 ns).take k)).set i0 (x4 (ns.getD i0 (0,0,0,[])).1 (ns.getD i0 (0,0,0,[])).2.1 ts (A0N (ns.getD i0 (0,0,0,[])) ff (U4 (pi,ts,ns,os) cc ff (List.replicate ns.length 0) ((E3 ns).take k))) (cc.getD i0 [])):=by
     rw[hnx (by omega),hi]
     rfl
   refine A2 ?_;simp only[go_sem];refine hK6 _ ?_;refine oS fun _ hK8=>?_;refine A3 ?_;refine oS fun _ hK9=>?_;refine oW P2 ?_;simp (maxSteps:=2000000)only[hi,go_sem];repeat(with_reducible refine oA ?_)
   refine hK9 _ ?_;refine oS fun _ hK10=>?_;refine oW P2 ?_;simp (maxSteps:=2000000)only[go_sem];repeat(with_reducible refine oA ?_)
   refine hK10 _ ?_
   refine oR P2
     [[],[],[],[],[3],[3,4],[3,4,5],[],[],[],[7,8,9],[],[11],[11,12],[11,12,13],[],[11,12,13,14,15],[11,12,13,14,15,16],[2,3,4,5,6,7,8,9,10,11,12,13,14,15,16,17],[0,1,2,3,4,5,6,7,8,9,10,11,12,13,14,15,16,17,18],[0,1,2,3,4,5,6,7,8,9,10,11,12,13,14,15,16,17,18,19]]
     [[820,821,822,823,824,825,826,827,828,829,830,831,832,833,834,835],[820,821,822,823,824,825,826,827,828,829,830,831,832,833,834,835],[820,821,822,823,824,825,826,827,828,829,830,831,832,833,834,835],[820,821,822,823,824,825,826,827,828,829,830,831,832,833,834,835],[820,821,822,823,824,825,826,827,828,829,830,831,832,833,834,835],[820,821,822,823,824,825,826,827,828,829,830,831,832,833,834,835],[820,821,822,823,824,825,826,827,828,829,830,831,832,833,834,835],[],[],[],[],[820,821,822,823,824,825,826,827,828,829,830,831,832,833,834,835],[820,821,822,823,824,825,826,827,828,829,830,831,832,833,834,835],[820,821,822,823,824,825,826,827,828,829,830,831,832,833,834,835],[820,821,822,823,824,825,826,827,828,829,830,831,832,833,834,835],[820,821,822,823,824,825,826,827,828,829,830,831,832,833,834,835],[820,821,822,823,824,825,826,827,828,829,830,831,832,833,834,835],[820,821,822,823,824,825,826,827,828,829,830,831,832,833,834,835],[],[],[]]
     [[],[],[],[],[],[],[],[],[],[],[820,821,822,823,824,825,826,827,828,829,830,831,832,833,834,835],[],[],[],[],[],[],[],[],[],[]] (by kernel_rfl) (by kernel_rfl) (A7 (acc:=[]) ?_)
   simp (maxSteps:=2000000)only[List.nodup_nil,go_sem];repeat(with_reducible first|refine oD ?_|refine And.intro (by first|exact hic|exact hst) ?_)
   refine hK8 _ ?_;refine oW P2 ?_;simp only[go_sem];refine hL5 ⟨k+1,by omega⟩ _ (oK ?_) ?_
   ·
    simp (maxSteps:=2000000)only[go_sem];all_goals((repeat' refine And.intro ?_ ?_)<;>first|rfl|exact wk (by omega)|exact e1.symm)
   ·
    first|(simp only[];omega)|omega|(simp;omega)
  intro c0;refine B6 ?_;simp only[go_sem];refine hK3 _ ?_;refine oS fun _ hK11=>?_;refine oW P2 ?_;simp only[go_sem];refine hK11 _ ?_;refine A0 ?_;simp only[hres,go_sem];first|exact oF|(refine⟨?_,oF⟩;exact congrArg (U4 (pi,ts,ns,os) cc ff (List.replicate ns.length 0)) (List.take_of_length_le (by omega)))
def y9:G4:=fun f=>if f=86 then some (.p d7) else A8d f
theorem J7:B5 Tryz.prog y9:=F8 A8z (B0 Tryz.func86 rfl (by decide)) P2
attribute [go_sem] y9 d7
def n9:GCon where
  ps:=[.ptr ((.prod (.int .i64) (.prod (.row 26 (.row 2 (.int .i64))) (.prod (.row 67 (.prod (.int .i64) (.prod (.int .i64) (.prod (.int .i64) (.row 2 (.int .i64)))))) (.row 2 (.int .i64)))))),.po 0,.val ((.row 2 (.int .i64))),.val ((.row 2 (.int .i64)))]
  os:=[.box [.rd ((.row 26 (.row 2 (.int .i64))))]]
  c:=fun x=>G3 x.1.1=true∧A2L x.1.1 x.2.1.1∧(x.1.2.2.1.length:Int)=x.1.1.1∧I9 x.1.2.2.1=true∧A0m x.1.1 x.1.2.2.2.1
  r:=fun _=>.tup []
  o:=fun x=>[(30,.box [.ow 10]),(10,.tree 26 (.row 2 (.int .i64)) (A4q x.1.1 x.2.1.1 x.1.2.2.1 x.1.2.2.2.1) none)]
  ok:=by
    rintro⟨⟨⟨(pi:Int),(ts:List (List Int)),(ns:List B1),(os:List Int)⟩,_,(ff:List Int),(vv:List Int),_⟩,⟨⟨(cc:List (List Int)),_⟩,_⟩⟩
    exact⟨rfl,rfl,by decide⟩
theorem B16:l6 Tryz.prog 87 n9:=by
  refine F1 Tryz.func87 rfl ?_
  have hres:Tryz.f87.results.toList=[]:=rfl
  rintro⟨⟨⟨(pi:Int),(ts:List (List Int)),(ns:List B1),(os:List Int)⟩,_,(ff:List Int),(vv:List Int),_⟩,⟨⟨(cc:List (List Int)),_⟩,_⟩⟩ hc hL hO
  simp only[n9,go_sem] at hL
  simp only[n9,go_sem] at hO
  simp only[n9,St.init,St.initG,Tryz.ntmps87,go_sem] 
  obtain⟨hP,hcc,hfl,hff,hvv⟩:=(show G3 (pi,ts,ns,os)=true∧A2L (pi,ts,ns,os) cc∧(ff.length:Int)=(pi,ts,ns,os).1∧I9 ff=true∧A0m (pi,ts,ns,os) vv from hc)
  obtain⟨hF,hol⟩:=E1 hP
  have hn24:ns.length≤24:=(C0 hF).1
  have hvl:vv.length=ns.length:=hvv.1
  have hsl:cc.length=ns.length:=hcc.1
  refine oS fun _ hK1=>?_;refine oW J7 ?_;simp only[List.nodup_nil,go_sem];repeat(with_reducible refine oA ?_)
  refine hK1 _ ?_;refine oS fun _ hK2=>?_;refine oS fun _ hK3=>?_;refine oW J7 ?_;simp only[go_sem];refine hK3 _ ?_;refine A3 ?_;refine A8 (ι:={ k:Nat // k≤ns.length }) (fun k=>⟨[.c (.pt [] ((.prod (.int .i64) (.prod (.row 26 (.row 2 (.int .i64))) (.prod (.row 67 (.prod (.int .i64) (.prod (.int .i64) (.prod (.int .i64) (.row 2 (.int .i64)))))) (.row 2 (.int .i64)))))) (pi,ts,ns,os) 0),.c (.po 30 0),.c (.rd [] 2 (.int .i64) (ff)),.c (.rd [] 2 (.int .i64) (vv)),zz,zz,zz,zz,.c (.ow 9001),.c (.sc (.int .i64 (k.1))),zz,zz,zz,zz,zz,zz,zz,zz,zz,zz,zz,zz,zz,zz,zz,zz,zz,zz,zz,zz,zz,zz,zz,zz,zz,zz,zz,zz,zz,zz,zz,zz,zz,zz,zz,zz,zz,zz,zz,zz,zz],[(30,.box [.rd [] 26 ((.row 2 (.int .i64))) (cc)]),(9001,.tree 26 (.row 2 (.int .i64)) ((List.range k.1).map (fun q=>A17 (pi,ts,ns,os) cc ff vv (vv.getD q 0) q)) none)]⟩) (fun k=>ns.length - k.1) ⟨0,by simp⟩ ?_ ?_
  ·
   refine oK ?_;simp (maxSteps:=2000000)only[go_sem];all_goals((repeat' refine And.intro ?_ ?_)<;>first|rfl|(congr 1;done)|(simp;done))
  rintro⟨k,hk⟩ K4 hL4
  have hrl:((List.range k).map (fun q=>A17 (pi,ts,ns,os) cc ff vv (vv.getD q 0) q)).length=k:=by rw[List.length_map,List.length_range]
  have hnx:(List.range (k+1)).map (fun q=>A17 (pi,ts,ns,os) cc ff vv (vv.getD q 0) q)=(List.range k).map (fun q=>A17 (pi,ts,ns,os) cc ff vv (vv.getD q 0) q)++[A17 (pi,ts,ns,os) cc ff vv (vv.getD k 0) k]:=by rw[List.range_succ,List.map_append];rfl
  refine oS fun _ hK5=>?_;refine oS fun _ hK6=>?_;refine oW J7 ?_;simp (maxSteps:=2000000)only[go_sem];repeat(with_reducible refine oA ?_)
  refine hK6 _ ?_;refine oC rfl ?_ ?_
  ·
   intro c0;have hst:∃tabs,X2 (ns.getD k (0,0,0,[])) tabs (A0N (ns.getD k (0,0,0,[])) ff vv) (cc.getD k []):=⟨ts,(A5J (p:=(pi,ts,ns,os)) hF hcc hff hvv.2 (i:=k) (by show k < ns.length;omega)).c⟩
   have hic:B5H (ns.getD k (0,0,0,[])) ff vv:=B2S (p:=(pi,ts,ns,os)) hF hfl hvv.1 (i:=k) (by show k < ns.length;omega)
   refine A2 ?_;simp only[go_sem];refine hK5 _ ?_;refine oS fun _ hK7=>?_;refine A3 ?_;refine oS fun _ hK8=>?_;refine oW J7 ?_;simp (maxSteps:=2000000)only[go_sem];repeat(with_reducible refine oA ?_)
   refine hK8 _ ?_
   refine oR J7
     [[],[],[],[],[],[2,3,4],[],[6],[6,7],[6,7,8],[],[6,7,8,9,10],[6,7,8,9,10,11],[],[],[13,14],[13,14,15],[1,2,3,4,5,6,7,8,9,10,11,12,13,14,15,16],[1,2,3,4,5,6,7,8,9,10,11,12,13,14,15,16,17],[0,1,2,3,4,5,6,7,8,9,10,11,12,13,14,15,16,17,18],[0,1,2,3,4,5,6,7,8,9,10,11,12,13,14,15,16,17,18,19]]
     [[612,613,614,615,616,617,618,619,620,621,622,623,624,625,626,627,804,805,806,807,808,809,810,811,812,813,814,815,816,817,818,819,820],[612,613,614,615,616,617,618,619,620,621,622,623,624,625,626,627],[],[],[],[],[612,613,614,615,616,617,618,619,620,621,622,623,624,625,626,627],[612,613,614,615,616,617,618,619,620,621,622,623,624,625,626,627],[612,613,614,615,616,617,618,619,620,621,622,623,624,625,626,627],[612,613,614,615,616,617,618,619,620,621,622,623,624,625,626,627],[612,613,614,615,616,617,618,619,620,621,622,623,624,625,626,627],[612,613,614,615,616,617,618,619,620,621,622,623,624,625,626,627],[612,613,614,615,616,617,618,619,620,621,622,623,624,625,626,627],[612,613,614,615,616,617,618,619,620,621,622,623,624,625,626,627],[612,613,614,615,616,617,618,619,620,621,622,623,624,625,626,627],[612,613,614,615,616,617,618,619,620,621,622,623,624,625,626,627],[612,613,614,615,616,617,618,619,620,621,622,623,624,625,626,627],[],[],[],[]]
     [[],[],[],[],[],[612,613,614,615,616,617,618,619,620,621,622,623,624,625,626,627],[],[],[],[],[],[],[],[],[],[],[],[804,805,806,807,808,809,810,811,812,813,814,815,816,817,818,819],[612,613,614,615,616,617,618,619,620,621,622,623,624,625,626,627,804,805,806,807,808,809,810,811,812,813,814,815,816,817,818,819,820],[],[]] (by kernel_rfl) (by kernel_rfl) (A7 (acc:=[]) ?_)
   simp (maxSteps:=2000000)only[List.nodup_cons,List.nodup_nil,List.not_mem_nil,not_false_eq_true,go_sem];repeat(with_reducible first|refine oD ?_|refine And.intro (by first|exact hic|exact hst) ?_)
   refine hK7 _ ?_;refine oW J7 ?_;simp only[go_sem];refine hL4 ⟨k+1,by omega⟩ _ (oK ?_) ?_
   ·
    simp (maxSteps:=2000000)only[go_sem];all_goals((repeat' refine And.intro ?_ ?_)<;>first|rfl|exact wk (by omega)|(congr 1;exact hnx.symm)|exact hnx.symm)
   ·
    first|(simp only[];omega)|omega|(simp;omega)
  intro c0;refine B6 ?_;simp only[go_sem];refine hK2 _ ?_;refine oW J7 ?_;simp (maxSteps:=2000000)only[go_sem];repeat(with_reducible refine oA ?_)
  simp (maxSteps:=2000000)only[hres,go_sem]
  first
   | exact oG
   | refine ⟨oG, ?_⟩
     have hk3:k=ns.length:=by omega
     clear hK1 hK2 hK3 hL4 hK5 hK6;subst hk3
     (repeat' refine And.intro ?_ ?_)<;>first|rfl|(congr 1;done)
def A4A:G4:=fun f=>if f=87 then some (.g n9) else y9 f
theorem A8M:B5 Tryz.prog A4A:=A0M B16 (B0 Tryz.func87 rfl (by decide)) J7
attribute [go_sem] A4A n9
end Go.Proofs.YtenjbehedcegdaaGreat
