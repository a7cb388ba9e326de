/-
  Texts of this claim, joined (part 31). No condition beyond those of the theorems.
-/
import Derived.Test.YtgaogcnfijbahaaGreatQ07
import Derived.Test.YtgaogcnfijbahaaGreatQ24
import Derived.Test.YtgaogcnfijbahaaGreatQ30
namespace Go.Proofs.YtgaogcnfijbahaaGreat
open Go.RowKit
set_option linter.unusedSimpArgs false
set_option linter.unusedVariables false
set_option maxRecDepth 100000
set_option maxHeartbeats 4000000
def B27:E4:=fun f=>match n6 f with
 | some k=>some k
 | none=>A5s f
theorem T6:B4 Tryz.prog B27:=N2 L8 A85
attribute [go_sem] B27 T0
def A6c:Con:=⟨[.ptr (.prod (.int .i64) (.prod (.row 26 (.row 2 (.int .i64))) (.prod (.row 95 (.prod (.int .i64) (.prod (.int .i64) (.prod (.int .i64) (.row 2 (.int .i64)))))) (.row 2 (.int .i64))))),.ptr (.row 26 (.row 2 (.int .i64)))],[⟨.bool,true⟩],fun _=>True,fun x=>B9 x.1 && z7 x.1 x.2.1⟩
theorem C3R:C9 Tryz.prog 155 A6c:=by
  refine A4 Tryz.func155 rfl ?_
  have hres:Tryz.f155.results.toList=[.tmp 4]:=rfl
  rintro⟨⟨(pi:Int),(ts:List (List Int)),(ns:List A6),(os:List Int)⟩,(cc:List (List Int)),_⟩ hc hL
  simp only[A6c,go_sem] at hL
  obtain⟨⟨lts,lns,los⟩,lcc,lcc2⟩:=hL
  simp only[A6c,St.init,St.initG,Tryz.ntmps155,go_sem] 
  refine oS fun _ hK1=>?_;refine oW T6 ?_;simp only[go_sem];refine hK1 _ ?_;refine oS fun _ hK2=>?_;refine oS fun _ hK3=>?_
  refine oR T6
    [[],[0],[0,1],[0,1,2],[0,1,2,3],[0,1,2,3,4],[0,1,2,3,4,5],[0,1,2,3,4,5,6],[0,1,2,3,4,5,6,7],[0,1,2,3],[0,1,2,3,9],[0,1,2,3,9,10],[0,1,2,3,9,10,11],[0,1,2,3,9,10,11,12],[0,1,2,3,4,5,6,7,8,9,10,11,12,13],[0,1,2,3,4,5,6,7,8,9,10,11,12,13,14]]
    [[],[],[],[],[],[],[],[],[],[],[],[],[],[],[],[]]
    [[],[],[],[],[],[],[],[],[],[],[],[],[],[],[],[]] (by kernel_rfl) (by kernel_rfl) (A9 (acc:=[]) ?_)
  simp (maxSteps:=2000000)only[go_sem];repeat' (with_reducible first|refine oD ?_|refine oT (fun g1=>?_) (fun g1=>?_)|refine oE (fun g1=>?_) (fun g1=>?_))
  all_goals
   refine hK3 _ ?_;refine E2 rfl ?_ ?_
   ·
    intro c0;try simp only[zA,zB,zC,zD,zE,zF,zG,zH,zI] at c0
    all_goals
     refine oS fun _ hK4=>?_;refine oW T6 ?_;simp only[go_sem];refine hK4 _ ?_;refine A0 ?_;simp only[hres,go_sem];first|exact oF|(refine⟨?_,oF⟩;first|(rw[C1F (p:=(pi,ts,ns,os)) (show ¬cc.length=ns.length by omega),Bool.and_false])|(clear hK1 hK2 hK3 hK4;simp_all;done))
   ·
    intro c0;try simp only[zA,zB,zC,zD,zE,zF,zG,zH,zI] at c0
    all_goals
     have hP:B9 (pi,ts,ns,os)=true:=by clear hK1 hK2 hK3;simp_all
     have hlc:cc.length=ns.length:=by clear hK1 hK2 hK3;simp_all<;>omega
     have hn24:ns.length≤24:=(A8 (B8 hP).1).1
     refine A2 ?_;simp only[go_sem];refine hK2 _ ?_;refine oS fun _ hK5=>?_;refine oS fun _ hK6=>?_;refine oW T6 ?_;simp only[go_sem];refine hK6 _ ?_;refine A1 ?_;refine A7 (ι:={ k:Nat // k≤ns.length∧∀i,i < k→A03 (pi,ts,ns,os) cc i=true }) (fun k=>⟨[.c (.pt [] ((.prod (.int .i64) (.prod (.row 26 (.row 2 (.int .i64))) (.prod (.row 95 (.prod (.int .i64) (.prod (.int .i64) (.prod (.int .i64) (.row 2 (.int .i64)))))) (.row 2 (.int .i64)))))) (pi,ts,ns,os) 0),.c (.pt [] ((.row 26 (.row 2 (.int .i64)))) cc 0),zz,zz,zz,.c (.sc (.int .i64 (k.1))),zz,zz,zz,zz,zz,zz,zz,zz,zz,zz,zz,zz,zz,zz,zz,zz,zz,zz,zz,zz,zz,zz,zz,zz,zz,zz,zz,zz,zz,zz,zz,zz,zz,zz,zz,zz,zz,zz,zz,zz,zz,zz,zz,zz,zz,zz,zz,zz,zz,zz,zz,zz,zz],[]⟩) (fun k=>ns.length - k.1) ⟨0,by simp,fun i hi=>by omega⟩ ?_ ?_
     ·
      refine oK ?_;simp (maxSteps:=2000000)only[go_sem];all_goals(first|rfl|((repeat' refine And.intro ?_ ?_)<;>first|rfl|simp))
     rintro⟨k,hk,hp⟩ K7 hL7
     have hnc:k < ns.length→A23 (ns.getD k (0,0,0,[])):=fun h=>⟨_,(G6 (d9 (p:=(pi,ts,ns,os)) (B8 hP).1 h)).1⟩
     refine oS fun _ hK8=>?_;refine oS fun _ hK9=>?_;refine oW T6 ?_;simp (maxSteps:=2000000)only[go_sem];repeat(with_reducible refine oA ?_)
     refine hK9 _ ?_;refine E2 rfl ?_ ?_
     ·
      intro c1;try simp only[zA,zB,zC,zD,zE,zF,zG,zH,zI] at c1
      all_goals
       refine A2 ?_;simp only[go_sem];refine hK8 _ ?_;refine oS fun _ hK10=>?_;refine A1 ?_;refine oS fun _ hK11=>?_
       refine oR T6
         [[],[0],[0,1],[0,1,2],[],[0,1,2,3,4],[0,1,2,3,4,5],[0,1,2,3,4,5,6],[],[8],[8,9],[8,9,10],[],[8,9,10,11,12],[8,9,10,11,12,13],[8,9,10,11,12,13,14],[0,1,2,3,4,5,6,7,8,9,10,11,12,13,14,15],[0,1,2,3,4,5,6,7,8,9,10,11,12,13,14,15,16],[0,1,2,3,4,5,6,7,8,9,10,11,12,13,14,15,16,17],[0,1,2,3,4,5,6,7,8,9,10,11,12,13,14,15,16,17,18],[0,1,2,3,4,5,6,7,8,9,10,11,12,13,14,15,16,17,18,19],[0,1,2,3,4,5,6,7,8,9,10,11,12,13,14,15,16,17,18,19,20],[0,1,2,3,4,5,6,7,8,9,10,11,12,13,14,15,16,17],[0,1,2,3,4,5,6,7,8,9,10,11,12,13,14,15,16,17,18,19,20,21,22],[0,1,2,3,4,5,6,7,8,9,10,11,12,13,14,15,16,17,18,19,20,21,22,23],[0,1,2,3,4,5,6,7,8,9,10,11,12,13,14,15,16,17,18,19,20,21,22,23,24],[0,1,2,3,4,5,6,7,8,9,10,11,12,13,14,15,16,17,18,19,20,21,22,23,24,25],[0,1,2,3,4,5,6,7,8,9,10,11,12,13,14,15,16,17,18,19,20,21,22,23,24,25,26]]
         [[820,821,822,823,824,825,826,827,828,829,830,831,832,833,834,835],[820,821,822,823,824,825,826,827,828,829,830,831,832,833,834,835],[820,821,822,823,824,825,826,827,828,829,830,831,832,833,834,835],[820,821,822,823,824,825,826,827,828,829,830,831,832,833,834,835],[820,821,822,823,824,825,826,827,828,829,830,831,832,833,834,835],[820,821,822,823,824,825,826,827,828,829,830,831,832,833,834,835],[820,821,822,823,824,825,826,827,828,829,830,831,832,833,834,835],[820,821,822,823,824,825,826,827,828,829,830,831,832,833,834,835],[],[],[],[],[],[],[],[],[],[],[],[],[],[],[],[],[],[],[],[]]
         [[],[],[],[],[],[],[],[],[],[],[],[],[],[],[820,821,822,823,824,825,826,827,828,829,830,831,832,833,834,835],[],[],[],[],[],[],[],[],[],[],[],[],[]] (by kernel_rfl) (by kernel_rfl) (A9 (acc:=[]) ?_)
       simp (maxSteps:=2000000)only[go_sem];repeat' (with_reducible first|refine oD ?_|refine And.intro (by first|exact hnc (by omega)) ?_|refine oT (fun g6=>?_) (fun g6=>?_)|refine oE (fun g6=>?_) (fun g6=>?_))
       all_goals
        refine hK11 _ ?_;refine E2 rfl ?_ ?_
        ·
         intro c2;try simp only[zA,zB,zC,zD,zE,zF,zG,zH,zI] at c2
         all_goals
          have hsv:(D4 (ns.getD k (0,0,0,[]))).length=(D4 ((pi,ts,ns,os).2.2.1.getD k n0)).length:=rfl
          have hs16:(D4 (ns.getD k (0,0,0,[]))).length≤16:=A1O (G6 (d9 (p:=(pi,ts,ns,os)) (B8 hP).1 (i:=k) (show k < ns.length by omega))).1
          have hcf:A03 (pi,ts,ns,os) cc k=false:=by first|exact C38 (by omega)|exact C2G (by rw[←C3t (by omega)];assumption)
          refine oS fun _ hK12=>?_;refine oW T6 ?_;simp only[go_sem];refine hK12 _ ?_;refine A0 ?_;simp only[hres,go_sem];first|exact oF|(refine⟨?_,oF⟩;rw[hP,C16 (p:=(pi,ts,ns,os)) (k:=k) (by show k < ns.length;omega) hcf];rfl)
        ·
         intro c2;try simp only[zA,zB,zC,zD,zE,zF,zG,zH,zI] at c2
         all_goals
          have hsv:(D4 (ns.getD k (0,0,0,[]))).length=(D4 ((pi,ts,ns,os).2.2.1.getD k n0)).length:=rfl
          have hs16:(D4 (ns.getD k (0,0,0,[]))).length≤16:=A1O (G6 (d9 (p:=(pi,ts,ns,os)) (B8 hP).1 (i:=k) (show k < ns.length by omega))).1
          have hce:A03 (pi,ts,ns,os) cc k=true:=C5b (by omega) (by rw[←C3t (by omega)];assumption)
          refine A2 ?_;simp only[go_sem];refine hK10 _ ?_;refine oW T6 ?_;simp only[go_sem];refine hL7 ⟨k+1,by omega,B6w hp hce⟩ _ (oK ?_) ?_
          ·
           simp (maxSteps:=2000000)only[go_sem];all_goals(first|rfl|((repeat' refine And.intro ?_ ?_)<;>first|rfl|exact wk (by omega)|simp))
          ·
           first|(simp only[];omega)|omega|(simp;omega)
     ·
      intro c1;try simp only[zA,zB,zC,zD,zE,zF,zG,zH,zI] at c1
      all_goals
       refine B6 ?_;simp only[go_sem];refine hK5 _ ?_;refine oS fun _ hK13=>?_;refine oW T6 ?_;simp only[go_sem];refine hK13 _ ?_;refine A0 ?_;simp only[hres,go_sem];first|exact oF|(refine⟨?_,oF⟩;rw[hP,C1f (p:=(pi,ts,ns,os)) (k:=k) (by show cc.length=ns.length;omega) (by show ¬k < ns.length;omega) hp];rfl)
def B3A:E4:=fun f=>if f=155 then some (.p A6c) else B27 f
theorem Z8:B4 Tryz.prog B3A:=E3 C3R (B0 Tryz.func155 rfl (by decide)) T6
attribute [go_sem] B3A A6c
def A10:Con:=⟨[.ptr (.prod (.int .i64) (.prod (.row 26 (.row 2 (.int .i64))) (.prod (.row 95 (.prod (.int .i64) (.prod (.int .i64) (.prod (.int .i64) (.row 2 (.int .i64)))))) (.row 2 (.int .i64))))),.ptr (.row 26 (.row 2 (.int .i64))),.val ((.row 2 (.int .i64)))],[⟨.int .i64,true⟩],fun _=>True,fun x=>A15 x.1 x.2.1 x.2.2.1⟩
theorem B4q:C9 Tryz.prog 149 A10:=by
  refine A4 Tryz.func149 rfl ?_
  have hres:Tryz.f149.results.toList=[.tmp 6]:=rfl
  rintro⟨⟨(pi:Int),(ts:List (List Int)),(ns:List A6),(os:List Int)⟩,(cc:List (List Int)),(ff:List Int),_⟩ hc hL
  simp only[A10,go_sem] at hL
  simp only[A10,St.init,St.initG,Tryz.ntmps149,go_sem] 
  refine oS fun _ hK1=>?_;refine oW Z8 ?_;simp only[go_sem];refine hK1 _ ?_;refine oS fun _ hK2=>?_;refine oS fun _ hK3=>?_;refine oW Z8 ?_;simp only[go_sem];repeat(with_reducible refine oA ?_)
  refine hK3 _ ?_;refine oC rfl ?_ ?_
  ·
   intro c0;refine oS fun _ hK4=>?_;refine oW Z8 ?_;simp only[go_sem];refine hK4 _ ?_;refine A0 ?_;simp only[hres,go_sem];first|exact oF|(refine⟨?_,oF⟩;exact(C61 c0).symm)
  intro c0;have hpi:pi≤4:=(A8 (B8 (Bool.and_eq_true_iff.1 c0).1).1).2.2.2.2.1
  have hl3:(ff.length:Int)=pi→A36 ff=D9 ff:=fun h=>by unfold A36;rw[decide_eq_true (by omega)];rfl
  refine A2 ?_;simp only[go_sem];refine hK2 _ ?_;refine oS fun _ hK5=>?_;refine oS fun _ hK6=>?_;refine oW Z8 ?_;simp (maxSteps:=2000000)only[go_sem];repeat' (with_reducible first|refine oA ?_|refine oT (fun g3=>?_) (fun g3=>?_)|refine oE (fun g3=>?_) (fun g3=>?_))
  all_goals
   refine hK6 _ ?_;refine E2 rfl ?_ ?_
   ·
    intro c1;try simp only[zA,zB,zC,zD,zE,zF,zG,zH,zI] at c1
    all_goals
     refine oS fun _ hK7=>?_;refine oW Z8 ?_;simp only[go_sem];refine hK7 _ ?_;refine A0 ?_;simp only[hres,go_sem];first|exact oF|(refine⟨?_,oF⟩;first|exact(B8D c0 (by rw[decide_eq_false (by omega)];rfl)).symm|exact(B8D c0 (by rw[←hl3 (by omega),show A36 ff=false by assumption,Bool.and_false])).symm)
   ·
    intro c1;try simp only[zA,zB,zC,zD,zE,zF,zG,zH,zI] at c1
    all_goals
     refine A2 ?_;simp only[go_sem];refine hK5 _ ?_;refine oS fun _ hK8=>?_;refine oW Z8 ?_;simp only[go_sem];refine hK8 _ ?_;refine A0 ?_;simp only[hres,go_sem];first|exact oF|(refine⟨?_,oF⟩;exact(B8F c0 (by rw[decide_eq_true (by omega),←hl3 (by omega),show A36 ff=true by assumption];rfl)).symm)
def A53:E4:=fun f=>if f=149 then some (.p A10) else B3A f
theorem B1C:B4 Tryz.prog A53:=E3 B4q (B0 Tryz.func149 rfl (by decide)) Z8
attribute [go_sem] A53 A10
set_option maxRecDepth 100000
set_option maxHeartbeats 4000000
def B3z:E4:=fun f=>match x9 f with
 | some k=>some k
 | none=>A4R f
theorem B7z:B4 Tryz.prog B3z:=N2 L0 A6A
attribute [go_sem] B3z T0
def B3W:E4:=fun f=>match B3z f with
 | some k=>some k
 | none=>A53 f
theorem V5:B4 Tryz.prog B3W:=N2 B7z B1C
attribute [go_sem] B3W T0
def o5:GCon where
  ps:=[.val ((.prod (.int .i64) (.prod (.row 26 (.row 2 (.int .i64))) (.prod (.row 95 (.prod (.int .i64) (.prod (.int .i64) (.prod (.int .i64) (.row 2 (.int .i64)))))) (.row 2 (.int .i64)))))),.one ((.row 26 (.row 2 (.int .i64)))),.val ((.row 2 (.int .i64)))]
  os:=[]
  c:=fun _=>True
  r:=fun x=>.tup [.c (.ow 10),.agg [.ow 11],.c (.sc (.int .i64 (A7z x.1.1 x.1.2.1 x.1.2.2.1).2.2))]
  o:=fun x=>[(10,.row 2 (.int .i64) ((A7z x.1.1 x.1.2.1 x.1.2.2.1).1) []),(11,.tree 26 (.row 2 (.int .i64)) ((A7z x.1.1 x.1.2.1 x.1.2.2.1).2.1) none)]
  ok:=by
    rintro⟨⟨⟨(pi:Int),(ts:List (List Int)),(ns:List A6),(os:List Int)⟩,(cc:List (List Int)),(ff:List Int),_⟩,_⟩
    exact⟨rfl,rfl,by decide⟩
theorem B5R:Z2 Tryz.prog 135 o5:=by
  refine E1 Tryz.func135 rfl ?_
  have hres:Tryz.f135.results.toList=[.tmp 6,.cell 7 89,.tmp 8]:=rfl
  rintro⟨⟨⟨(pi:Int),(ts:List (List Int)),(ns:List A6),(os:List Int)⟩,(cc:List (List Int)),(ff:List Int),_⟩,_⟩ hc hL hO
  simp only[o5,go_sem] at hL
  simp only[o5,go_sem] at hO
  simp only[o5,St.init,St.initG,Tryz.ntmps135,go_sem] 
  refine oS fun _ hK1=>?_;refine oW V5 ?_;simp (maxSteps:=2000000)only[go_sem];refine hK1 _ ?_;refine oS fun _ hK2=>?_;refine oS fun _ hK3=>?_;refine oW V5 ?_;simp only[go_sem];repeat(with_reducible refine oA ?_)
  refine hK3 _ ?_;refine oS fun _ hK4=>?_;refine oW V5 ?_;simp only[go_sem];refine hK4 _ ?_;refine oC rfl ?_ ?_
  ·
   intro c0;refine oS fun _ hK5=>?_;refine oW V5 ?_;simp (maxSteps:=2000000)only[go_sem];repeat(with_reducible refine oA ?_)
   refine hK5 _ ?_;refine H8 (A0z _ 6 9101 2 (.int .i64) (by decide)) ?_;simp (maxSteps:=2000000)only[go_sem];refine H8 (P9 _ 212 0 9102 26 ((.row 2 (.int .i64))) (by decide)) ?_;simp (maxSteps:=2000000)only[go_sem];refine A0 ?_;simp only[hres,go_sem]
   first
    | exact oG
    | refine ⟨oG, ?_⟩
      rw[C5Z c0]
      (repeat' refine And.intro ?_ ?_)<;>first|rfl|(congr 1;done)
  intro c0;obtain⟨hP,hS,hfl,hff⟩:=C2r c0
  have hsr:=B9J (p:=(pi,ts,ns,os)) (s:=cc) (fr:=ff) c0
  have hF:=(B8 hP).1
  have hn24:ns.length≤24:=(A8 hF).1
  have hvo:=a6 (p:=(pi,ts,ns,os)) (s:=cc) (fr:=ff) hF hS hff
  have hos:os.length≤1000∧N9 (E8 (pi,ts,ns,os) cc ff).length os=true:=⟨by have:=(A8 hF).2.1;show os.length≤1000;have h:os.length≤4:=this;omega,by rw[hvo.1];exact(A8 hF).2.2.2.2.2.1⟩
  have hor:B3n ns=(C6 ns,true):=C22 (B8 hP).2
  refine A2 ?_;simp only[go_sem];refine hK2 _ ?_;refine oS fun _ hK6=>?_;refine oW V5 ?_;simp (maxSteps:=2000000)only[hor,go_sem];repeat(with_reducible first|refine oA ?_|refine And.intro (by first|exact hF) ?_)
  refine hK6 _ ?_;refine oS fun _ hK7=>?_;refine oW V5 ?_;simp only[go_sem];repeat(with_reducible first|refine oA ?_|refine And.intro (by first|exact⟨hP,rfl,hS,hfl,hff⟩|exact⟨hP,hS,hfl,hff⟩) ?_)
  refine hK7 _ ?_;refine oS fun _ hK8=>?_;refine oW V5 ?_;simp only[go_sem];repeat(with_reducible first|refine oA ?_|refine And.intro (by first|exact⟨hP,hS,hfl,hff,hvo⟩) ?_)
  refine hK8 _ ?_;refine oS fun _ hK9=>?_
  refine oR V5
    [[],[0],[],[0,1,2],[],[0,1,2,3],[0,1,2,3,4,5],[0,1,2,3,4,5,6]]
    [[],[],[],[],[612,613,614,615,616,617,618,619,620,621,622,623,624,625,626,627],[],[],[]]
    [[],[],[],[612,613,614,615,616,617,618,619,620,621,622,623,624,625,626,627],[],[],[],[]] (by kernel_rfl) (by kernel_rfl) (A9 (acc:=[]) ?_)
  simp (maxSteps:=2000000)only[go_sem];repeat(with_reducible first|refine oD ?_|refine And.intro (by first|exact hos) ?_)
  refine hK9 _ ?_;refine A0 ?_;simp only[hres,go_sem]
  first
   | exact oG
   | refine ⟨oG, ?_⟩
     rw[hsr]
     (repeat' refine And.intro ?_ ?_)<;>first|rfl|(congr 1;done)
def A50:E4:=fun f=>if f=135 then some (.g o5) else B3W f
theorem B11:B4 Tryz.prog A50:=m8 B5R (B0 Tryz.func135 rfl (by decide)) V5
attribute [go_sem] A50 o5
end Go.Proofs.YtgaogcnfijbahaaGreat
