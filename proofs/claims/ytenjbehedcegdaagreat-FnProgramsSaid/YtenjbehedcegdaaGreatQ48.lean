/-
  Texts of this claim, joined (part 48). No condition beyond those of the theorems.
-/
import Derived.Test.YtenjbehedcegdaaGreatQ47
import Derived.Test.YtenjbehedcegdaaGreatQ25
namespace Go.Proofs.YtenjbehedcegdaaGreat
open Go.RowKit
set_option linter.unusedSimpArgs false
set_option linter.unusedVariables false
set_option maxRecDepth 100000
set_option maxHeartbeats 8000000
def x9:Con:=⟨[.ptr (.prod (.int .i64) (.prod (.int .i64) (.prod (.int .i64) (.prod (.int .i64) (.prod (.row 2 (.int .i64)) (.int .i64)))))),.val (.int .i64),.val (.int .i64)],[⟨.bool,true⟩],fun x=>I6 x.2.1 (-1000) 1000=true,fun x=>A12 x.2.1 x.2.2.1 x.1⟩
theorem A9y:C8 Tryz.prog 66 x9:=by
  refine A4 Tryz.func66 rfl ?_
  have hres:Tryz.f66.results.toList=[.tmp 6]:=rfl
  rintro⟨⟨(kd:Int),(a:Int),(bb:Int),(nd:Int),(fr:List Int),(tt:Int)⟩,(rg:Int),(tb:Int),_⟩ hc hL
  simp only[x9,go_sem] at hL
  simp only[x9,St.init,St.initG,Tryz.ntmps66,go_sem] 
  obtain⟨hr1,hr2⟩:=B4.1 (show I6 rg (-1000) 1000=true from hc)
  have hw:IntKind.i64.wrap (rg - 1)=rg - 1:=H4 (by omega)
  refine oS fun _ hK1=>?_;refine oW F3 ?_;refine C9 200 (by rfl) ?_
  simp only[go_sem];refine hK1 _ ?_;refine oS fun _ hK2=>?_;refine oS fun _ hK3=>?_;refine oW F3 ?_;refine C9 200 (by rfl) ?_
  simp (maxSteps:=2000000)only[go_sem];repeat(with_reducible refine oA ?_)
  refine hK3 _ ?_;refine oC rfl ?_ ?_
  ·
   intro c0;refine oS fun _ hK4=>?_;refine oW F3 ?_;refine C9 200 (by rfl) ?_
   simp only[go_sem];refine hK4 _ ?_;refine A0 ?_;simp only[hres,go_sem]
   first
    | exact oF
    | refine ⟨?_, oF⟩
      rw[A05];clear hK1 hK2 hK3 hK4;simp_all
  intro c0;refine A2 ?_;simp only[go_sem];refine hK2 _ ?_;refine oS fun _ hK5=>?_;refine oS fun _ hK6=>?_;refine oW F3 ?_;refine C9 200 (by rfl) ?_
  simp only[go_sem];refine hK6 _ ?_;refine A3 ?_;refine A8 (ι:={ k:Nat // k≤fr.length∧(fr.take k).all (fun i=>I6 i 0 (rg - 1))=true }) (fun k=>⟨[.c (.pt [] ((.prod (.int .i64) (.prod (.int .i64) (.prod (.int .i64) (.prod (.int .i64) (.prod (.row 2 (.int .i64)) (.int .i64))))))) (kd,a,bb,nd,fr,tt) 0),.c (.sc (.int .i64 (rg))),.c (.sc (.int .i64 (tb))),zz,zz,zz,zz,.c (.sc (.int .i64 (k.1))),zz,zz,zz,zz,zz,zz,zz,zz,zz,zz,zz,zz,zz,zz,zz,zz,zz,zz,zz,zz,zz,zz,zz,zz,zz,zz,zz,zz,zz,zz,zz,zz,zz,zz,zz,zz,zz,zz,zz,zz,zz,zz,zz,zz,zz,zz,zz,zz,zz,zz,zz,zz,zz,zz,zz,zz,zz,zz,zz,zz,zz,zz,zz,zz,zz,zz,zz,zz,zz,zz,zz,zz,zz,zz,zz,zz,zz,zz,zz,zz,zz,zz,zz,zz,zz,zz,zz,zz,zz,zz,zz,zz,zz,zz,zz,zz,zz,zz,zz,zz,zz,zz,zz,zz],[]⟩) (fun k=>fr.length - k.1) ⟨0,by simp⟩ ?_ ?_
  ·
   refine oK ?_;simp (maxSteps:=2000000)only[go_sem];all_goals(first|rfl|((repeat' refine And.intro ?_ ?_)<;>first|rfl|simp))
  rintro⟨k,hk,hp⟩ K7 hL7
  refine oS fun _ hK8=>?_;refine oS fun _ hK9=>?_;refine oW F3 ?_;refine C9 200 (by rfl) ?_
  simp (maxSteps:=2000000)only[go_sem];repeat(with_reducible refine oA ?_)
  refine hK9 _ ?_;refine oC rfl ?_ ?_
  ·
   intro c1;refine A2 ?_;simp only[go_sem];refine hK8 _ ?_;refine oS fun _ hK10=>?_;refine A3 ?_;refine oS fun _ hK11=>?_;refine oW F3 ?_;refine C9 200 (by rfl) ?_
   simp (maxSteps:=2000000)only[hw,go_sem];repeat(with_reducible refine oA ?_)
   refine hK11 _ ?_;refine oC rfl ?_ ?_
   ·
    intro c2;refine oS fun _ hK12=>?_;refine oW F3 ?_;refine C9 200 (by rfl) ?_
    simp only[go_sem];refine hK12 _ ?_;refine A0 ?_;simp only[hres,go_sem]
    first
     | exact oF
     | refine ⟨?_, oF⟩
       have hix:N2 rg fr=false:=M2 (k:=k) (d:=0) (by omega) (by first|assumption|(clear hK1 hK2 hK3 hK5 hK6 hL7 hK8 hK9 hK10 hK11 hK12;simp_all))
       rw[A05,hix];clear hK1 hK2 hK3 hK5 hK6 hL7 hK8 hK9 hK10 hK11 hK12;simp_all
   intro c2;refine A2 ?_;simp only[go_sem];refine hK10 _ ?_;refine oW F3 ?_;refine C9 200 (by rfl) ?_
   simp only[go_sem];refine hL7 ⟨k+1,by omega,J6 (d:=0) (by omega) hp (by first|assumption|(clear hK1 hK2 hK3 hK5 hK6 hL7 hK8 hK9 hK10 hK11;simp_all))⟩ _ (oK ?_) ?_
   ·
    simp (maxSteps:=2000000)only[go_sem];first|rfl|exact wk (by omega)
   ·
    first|(simp only[];omega)|omega|(simp;omega)
  intro c1;have hix:N2 rg fr=true:=I7 hp (by omega)
  refine B6 ?_;simp only[go_sem];refine hK5 _ ?_;refine oS fun _ hK13=>?_;refine oS fun _ hK14=>?_;refine oW F3 ?_;refine C9 200 (by rfl) ?_
  simp only[go_sem];repeat(with_reducible refine oA ?_)
  refine hK14 _ ?_;refine A3 ?_;refine oS fun _ hK15=>?_;refine oW F3 ?_;refine C9 200 (by rfl) ?_
  simp only[go_sem];refine hK15 _ ?_;refine oC rfl ?_ ?_
  ·
   intro c3;refine oS fun _ hK16=>?_;refine oW F3 ?_;refine C9 200 (by rfl) ?_
   simp (maxSteps:=2000000)only[go_sem];repeat' (with_reducible first|refine oA ?_|refine oT (fun g10=>?_) (fun g10=>?_)|refine oE (fun g10=>?_) (fun g10=>?_))
   all_goals
    refine hK16 _ ?_;refine A0 ?_;simp only[hres,go_sem]
    first
     | exact oF
     | refine ⟨?_, oF⟩
       rw[A05];clear hK1 hK2 hK3 hK5 hK6 hL7 hK8 hK9 hK13 hK14 hK15 hK16;first|(simp_all [H2];done)|(simp_all [H2,-Int.not_le];done)
  intro c3;refine oS fun _ hK17=>?_;refine oW F3 ?_;refine C9 200 (by rfl) ?_
  simp only[go_sem];refine hK17 _ ?_;refine oC rfl ?_ ?_
  ·
   intro c4;refine oS fun _ hK18=>?_;refine oW F3 ?_;refine C9 200 (by rfl) ?_
   simp (maxSteps:=2000000)only[hw,go_sem];repeat' (with_reducible first|refine oA ?_|refine oT (fun g12=>?_) (fun g12=>?_)|refine oE (fun g12=>?_) (fun g12=>?_))
   all_goals
    refine hK18 _ ?_;refine A0 ?_;simp only[hres,go_sem]
    first
     | exact oF
     | refine ⟨?_, oF⟩
       rw[A05];clear hK1 hK2 hK3 hK5 hK6 hL7 hK8 hK9 hK13 hK14 hK15 hK17 hK18;first|(simp_all [H2];done)|(simp_all [H2,-Int.not_le];done)
  intro c4;refine A2 ?_;simp only[go_sem];refine hK13 _ ?_;refine oS fun _ hK19=>?_;refine oW F3 ?_;refine C9 200 (by rfl) ?_
  simp only[go_sem];repeat(with_reducible refine oA ?_)
  refine hK19 _ ?_;refine oS fun _ hK20=>?_;refine oW F3 ?_;refine C9 200 (by rfl) ?_
  simp (maxSteps:=2000000)only[hw,go_sem];repeat' (with_reducible first|refine oA ?_|refine oT (fun g14=>?_) (fun g14=>?_)|refine oE (fun g14=>?_) (fun g14=>?_))
  all_goals
   refine hK20 _ ?_;refine A0 ?_;simp only[hres,go_sem]
   first
    | exact oF
    | refine ⟨?_, oF⟩
      rw[A05];clear hK1 hK2 hK3 hK5 hK6 hL7 hK8 hK9 hK13 hK14 hK15 hK17 hK19 hK20;first|(simp_all [H2];done)|(simp_all [H2,-Int.not_le];done)
def A2o:G4:=fun f=>if f=66 then some (.p x9) else A3A f
theorem I4:B5 Tryz.prog A2o:=F8 A9y (B0 Tryz.func66 rfl (by decide)) F3
attribute [go_sem] A2o x9
def A3n:Con:=⟨[.ptr (.prod (.int .i64) (.prod (.int .i64) (.prod (.row 26 (.row 2 (.int .i64))) (.prod (.row 64 (.prod (.int .i64) (.prod (.int .i64) (.prod (.int .i64) (.prod (.int .i64) (.prod (.row 2 (.int .i64)) (.int .i64))))))) (.row 2 (.int .i64))))))],[⟨.bool,true⟩],fun _=>True,fun x=>O0 x.1⟩
theorem B6R:C8 Tryz.prog 33 A3n:=by
  refine A4 Tryz.func33 rfl ?_
  have hres:Tryz.f33.results.toList=[.tmp 2]:=rfl
  rintro⟨⟨(gi:Int),(gr:Int),(ts:List (List Int)),(xs:List A1),(os:List Int)⟩,_⟩ hc hL
  simp only[A3n,go_sem] at hL
  simp only[A3n,St.init,St.initG,Tryz.ntmps33,go_sem] 
  refine oS fun _ hK1=>?_;refine oW I4 ?_;refine C9 200 (by rfl) ?_
  simp only[go_sem];repeat(with_reducible first|refine oA ?_|refine And.intro (by first|exact hgr|exact hxl) ?_)
  refine hK1 _ ?_;refine oS fun _ hK2=>?_;refine oS fun _ hK3=>?_;refine oW I4 ?_;refine C9 200 (by rfl) ?_
  simp (maxSteps:=2000000)only[go_sem];repeat' (with_reducible first|refine oA ?_|refine And.intro (by first|exact hgr|exact hxl) ?_|refine oT (fun g1=>?_) (fun g1=>?_)|refine oE (fun g1=>?_) (fun g1=>?_))
  all_goals
   refine hK3 _ ?_;refine D5 rfl ?_ ?_
   ·
    intro c0;try simp only[zA,zB,zC,zD,zE,zF,zG,zH,zI] at c0
    all_goals
     refine oS fun _ hK4=>?_;refine oW I4 ?_;refine C9 200 (by rfl) ?_
     simp only[go_sem];repeat(with_reducible first|refine oA ?_|refine And.intro (by first|exact hgr|exact hxl) ?_)
     refine hK4 _ ?_;refine A0 ?_;simp only[hres,go_sem]
     first
      | exact oF
      | refine ⟨?_, oF⟩
        have hA:A4h (gi,gr,ts,xs,os)=false:=by
          clear hK1 hK2 hK3 hK4;unfold A4h;first|(simp_all;done)|(simp_all;omega)
        rw[A3W,hA];rfl
   ·
    intro c0;try simp only[zA,zB,zC,zD,zE,zF,zG,zH,zI] at c0
    all_goals
     have hxl:xs.length≤48:=by omega
     have e2:os.length≤4:=by omega
     have hA:A4h (gi,gr,ts,xs,os)=true:=by
       clear hK1 hK2 hK3;unfold A4h;simp only[decide_eq_true hxl,decide_eq_true e2]
       simp_all
     have hgr:I6 gr (-1000) 1000=true:=by
       have h2:I6 gr 0 24=true:=by clear hK1 hK2 hK3;simp_all
       have:=B4.1 h2
       exact L8 (by omega) (by omega)
     refine A2 ?_;simp only[go_sem];refine hK2 _ ?_;refine oS fun _ hK5=>?_;refine oS fun _ hK6=>?_;refine oW I4 ?_;refine C9 200 (by rfl) ?_
     simp only[go_sem];repeat(with_reducible first|refine oA ?_|refine And.intro (by first|exact hgr|exact hxl) ?_)
     refine hK6 _ ?_;refine A3 ?_;refine A8 (ι:={ k:Nat // k≤xs.length∧(xs.take k).all (b5 (gi,gr,ts,xs,os))=true }) (fun k=>⟨[.c (.pt [] ((.prod (.int .i64) (.prod (.int .i64) (.prod (.row 26 (.row 2 (.int .i64))) (.prod (.row 64 (.prod (.int .i64) (.prod (.int .i64) (.prod (.int .i64) (.prod (.int .i64) (.prod (.row 2 (.int .i64)) (.int .i64))))))) (.row 2 (.int .i64))))))) (gi,gr,ts,xs,os) 0),zz,zz,.c (.sc (.int .i64 (k.1))),zz,zz,zz,zz,zz,zz,zz,zz,zz,zz,zz,zz,zz,zz,zz,zz,zz,zz,zz,zz,zz,zz,zz,zz,zz,zz,zz,zz,zz,zz,zz,zz,zz,zz,zz,zz,zz,zz,zz,zz,zz,zz,zz,zz,zz,zz,zz,zz,zz,zz,zz,zz,zz,zz,zz,zz,zz,zz,zz,zz,zz,zz,zz,zz,zz,zz,zz,zz,zz,zz,zz,zz,zz,zz,zz,zz,zz,zz,zz,zz,zz,zz,zz,zz,zz,zz,zz,zz,zz,zz,zz,zz,zz],[]⟩) (fun k=>xs.length - k.1) ⟨0,by simp⟩ ?_ ?_
     ·
      refine oK ?_;simp (maxSteps:=2000000)only[go_sem];all_goals(first|rfl|((repeat' refine And.intro ?_ ?_)<;>first|rfl|simp))
     rintro⟨k,hk,hp⟩ K7 hL7
     refine oS fun _ hK8=>?_;refine oS fun _ hK9=>?_;refine oW I4 ?_;refine C9 200 (by rfl) ?_
     simp (maxSteps:=2000000)only[go_sem];repeat(with_reducible first|refine oA ?_|refine And.intro (by first|exact hgr|exact hxl) ?_)
     refine hK9 _ ?_;refine D5 rfl ?_ ?_
     ·
      intro c1;try simp only[zA,zB,zC,zD,zE,zF,zG,zH,zI] at c1
      all_goals
       refine A2 ?_;simp only[go_sem];refine hK8 _ ?_;refine oS fun _ hK10=>?_;refine A3 ?_;refine oS fun _ hK11=>?_;refine oW I4 ?_;refine C9 200 (by rfl) ?_
       simp (maxSteps:=2000000)only[go_sem];repeat(with_reducible first|refine oA ?_|refine And.intro (by first|exact hgr|exact hxl) ?_)
       refine hK11 _ ?_;refine oS fun _ hK12=>?_
       refine oR I4
         [[],[],[1],[1,2],[1,2,3],[],[5],[5,6],[5,6,7],[5,6,7,8],[0,1,2,3,4,5,6,7,8,9],[0,1,2,3,4,5,6,7,8,9,10],[0,1,2,3,4,5,6,7,8,9,10,11],[0,1,2,3,4,5,6,7,8,9,10,11,12],[0,1,2,3,4,5,6,7,8,9,10,11,12,13],[0,1,2,3,4,5,6,7,8,9,10,11,12,13,14],[0,1,2,3,4,5,6,7,8,9,10,11,12,13,14,15],[0,1,2,3,4,5,6,7,8,9,10,11,12,13,14,15,16],[0,1,2,3,4,5,6,7,8,9,10,11,12,13,14,15,16,17],[0,1,2,3,4,5,6,7,8,9,10,11,12,13,14,15,16,17,18],[0,1,2,3,4,5,6,7,8,9,10,11,12,13,14,15,16,17,18,19],[0,1,2,3,4,5,6,7,8,9,10,11,12,13,14,15,16,17,18,19,20],[0,1,2,3,4,5,6,7,8,9,10,11,12,13,14,15,16,17,18,19,20,21],[0,1,2,3,4,5,6,7,8,9,10,11,12,13,14,15,16,17,18],[0,1,2,3,4,5,6,7,8,9,10,11,12,13,14,15,16,17,18,23],[0,1,2,3,4,5,6,7,8,9,10,11,12,13,14,15,16,17,18,23,24],[0,1,2,3,4,5,6,7,8,9,10,11,12,13,14,15,16,17,18,23,24,25],[0,1,2,3,4,5,6,7,8,9,10,11,12,13,14,15,16,17,18,19,20,21,22,23,24,25,26],[0,1,2,3,4,5,6,7,8,9,10,11,12,13,14,15,16,17,18,19,20,21,22,23,24,25,26,27],[0,1,2,3,4,5,6,7,8,9,10,11,12,13,14,15,16,17,18,19,20,21,22,23,24,25,26,27,28]]
         [[],[],[],[],[],[],[],[],[],[],[],[],[],[],[],[],[],[],[],[],[],[],[],[],[],[],[],[],[],[]]
         [[],[],[],[],[],[],[],[],[],[],[],[],[],[],[],[],[],[],[],[],[],[],[],[],[],[],[],[],[],[]] (by kernel_rfl) (by kernel_rfl) (A7 (acc:=[]) ?_)
       simp (maxSteps:=2000000)only[go_sem];repeat' (with_reducible first|refine oD ?_|refine And.intro (by first|exact hgr|exact hxl) ?_|refine oT (fun g7=>?_) (fun g7=>?_)|refine oE (fun g7=>?_) (fun g7=>?_))
       all_goals
        refine hK12 _ ?_;refine D5 rfl ?_ ?_
        ·
         intro c2;try simp only[zA,zB,zC,zD,zE,zF,zG,zH,zI] at c2
         all_goals
          refine oS fun _ hK13=>?_;refine oW I4 ?_;refine C9 200 (by rfl) ?_
          simp only[go_sem];repeat(with_reducible first|refine oA ?_|refine And.intro (by first|exact hgr|exact hxl) ?_)
          refine hK13 _ ?_;refine A0 ?_;simp only[hres,go_sem]
          first
           | exact oF
           | refine ⟨?_, oF⟩
             have hq:b5 (gi,gr,ts,xs,os) (xs.getD k ((0,0,0,0,[],0):A1))=false:=by
               cases hh:b5 (gi,gr,ts,xs,os) (xs.getD k ((0,0,0,0,[],0):A1)) with
               | false=>rfl
               | true =>
                 exfalso;obtain⟨q1,q2⟩:=Z6 hh
                 have q1:A12 gr ts.length (xs.getD k ((0,0,0,0,[],0):A1))=true:=q1
                 have q2:¬((xs.getD k ((0,0,0,0,[],0):A1)).1=1∧gi≤(xs.getD k ((0,0,0,0,[],0):A1)).2.1):=q2
                 first|omega|exact absurd q1 (by rw[Bool.not_eq_true];assumption)
             have hn:xs.all (b5 (gi,gr,ts,xs,os))=false:=M2 (k:=k) (d:=((0,0,0,0,[],0):A1)) (by omega) hq
             rw[A3W,hA];show false=(true && (xs.all (b5 (gi,gr,ts,xs,os)) && _))
             rw[hn];rfl
        ·
         intro c2;try simp only[zA,zB,zC,zD,zE,zF,zG,zH,zI] at c2
         all_goals
          have hq:b5 (gi,gr,ts,xs,os) (xs.getD k ((0,0,0,0,[],0):A1))=true:=B63 (by assumption) (by show ¬((xs.getD k ((0,0,0,0,[],0):A1)).1=1∧gi≤(xs.getD k ((0,0,0,0,[],0):A1)).2.1);omega)
          refine A2 ?_;simp only[go_sem];refine hK10 _ ?_;refine oW I4 ?_;refine C9 200 (by rfl) ?_
          simp only[go_sem];repeat(with_reducible first|refine oA ?_|refine And.intro (by first|exact hgr|exact hxl) ?_)
          refine hL7 ⟨k+1,by omega,J6 (d:=((0,0,0,0,[],0):A1)) (by omega) hp (by first|assumption|(clear hK1 hK2 hK3 hK5 hK6 hL7 hK8 hK9 hK10 hK11 hK12;simp_all))⟩ _ (oK ?_) ?_
          ·
           simp (maxSteps:=2000000)only[go_sem];first|rfl|exact wk (by omega)
          ·
           first|(simp only[];omega)|omega|(simp;omega)
     ·
      intro c1;try simp only[zA,zB,zC,zD,zE,zF,zG,zH,zI] at c1
      all_goals
       have hcl:xs.all (b5 (gi,gr,ts,xs,os))=true:=I7 hp (by omega)
       refine B6 ?_;simp only[go_sem];refine hK5 _ ?_;refine oS fun _ hK14=>?_;refine oW I4 ?_;refine C9 200 (by rfl) ?_
       simp (maxSteps:=2000000)only[go_sem];repeat' (with_reducible first|refine oA ?_|refine And.intro (by first|exact hgr|exact hxl) ?_|refine oT (fun g9=>?_) (fun g9=>?_)|refine oE (fun g9=>?_) (fun g9=>?_))
       all_goals
        refine hK14 _ ?_;refine A0 ?_;simp only[hres,go_sem]
        first
         | exact oF
         | refine ⟨?_, oF⟩
           rw[A3W,hA];show _=(true && (xs.all (b5 (gi,gr,ts,xs,os)) && _))
           rw[hcl];clear hK1 hK2 hK3 hK5 hK6 hL7 hK8 hK9 hK14
           simp_all
def A8a:G4:=fun f=>if f=33 then some (.p A3n) else A2o f
theorem A2d:B5 Tryz.prog A8a:=F8 B6R (B0 Tryz.func33 rfl (by decide)) I4
attribute [go_sem] A8a A3n
def i7:Con:=⟨[.val ((.prod (.int .i64) (.prod (.int .i64) (.prod (.row 26 (.row 2 (.int .i64))) (.prod (.row 64 (.prod (.int .i64) (.prod (.int .i64) (.prod (.int .i64) (.prod (.int .i64) (.prod (.row 2 (.int .i64)) (.int .i64))))))) (.row 2 (.int .i64)))))))],[⟨.bool,true⟩],fun _=>True,fun x=>O0 x.1⟩
theorem A8N:C8 Tryz.prog 10 i7:=by
  refine A4 Tryz.func10 rfl ?_
  have hres:Tryz.f10.results.toList=[.tmp 2]:=rfl
  rintro⟨⟨(gi:Int),(gr:Int),(ts:List (List Int)),(xs:List A1),(os:List Int)⟩,_⟩ hc hL
  simp only[i7,go_sem] at hL
  simp only[i7,St.init,St.initG,Tryz.ntmps10,go_sem] 
  refine oS fun _ hK1=>?_;refine oW A2d ?_;simp only[go_sem];refine hK1 _ ?_;refine oS fun _ hK2=>?_;refine oW A2d ?_;simp only[go_sem];repeat(with_reducible refine oA ?_)
  refine hK2 _ ?_;refine A0 ?_;simp only[hres,go_sem];first|exact oF|exact oFr
def A1u:G4:=fun f=>if f=10 then some (.p i7) else A8a f
theorem A6V:B5 Tryz.prog A1u:=F8 A8N (B0 Tryz.func10 rfl (by decide)) A2d
attribute [go_sem] A1u i7
end Go.Proofs.YtenjbehedcegdaaGreat
