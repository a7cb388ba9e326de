/-
  Texts of this claim, joined (part 40). No condition beyond those of the theorems.
-/
import Derived.Test.YtenjbehedcegdaaGreatQ38
import Derived.Test.YtenjbehedcegdaaGreatQ17
import Derived.Test.YtenjbehedcegdaaGreatQ39
namespace Go.Proofs.YtenjbehedcegdaaGreat
open Go.RowKit
set_option linter.unusedSimpArgs false
set_option linter.unusedVariables false
set_option maxRecDepth 100000
set_option maxHeartbeats 32000000
def n8:GCon where
  ps:=[.po 0,.val (.int .i64),.val (.int .i64),.val (.int .i64),.val .bool]
  os:=[.box [.rd ((.row 5 (.int .u8))),.rd (.int .i64),.rd (.int .u64)]]
  c:=fun x=>srcOk 1300 (x.2.1.1,x.2.1.2.1,x.2.1.2.2.1)∧(0:Int)≤x.1.2.1∧(x.1.2.1:Int)≤4∧(0:Int)≤x.1.2.2.1∧(x.1.2.2.1:Int)≤4∧(1:Int)≤x.1.2.2.2.1∧(x.1.2.2.2.1:Int)≤20
  r:=fun x=>.agg [.sc (.int .i64 (A2e x.1.2.1 x.1.2.2.1 x.1.2.2.2.1 x.1.2.2.2.2.1 (x.2.1.1,x.2.1.2.1,x.2.1.2.2.1)).1.1),.ow 10,.ow 11,.ow 12]
  o:=fun x=>[(30,.box [.rd [] 5 (.int .u8) ((A2e x.1.2.1 x.1.2.2.1 x.1.2.2.2.1 x.1.2.2.2.2.1 (x.2.1.1,x.2.1.2.1,x.2.1.2.2.1)).2.1),.sc (.int .i64 ((A2e x.1.2.1 x.1.2.2.1 x.1.2.2.2.1 x.1.2.2.2.2.1 (x.2.1.1,x.2.1.2.1,x.2.1.2.2.1)).2.2.1)),.sc (.int .u64 ((A2e x.1.2.1 x.1.2.2.1 x.1.2.2.2.1 x.1.2.2.2.2.1 (x.2.1.1,x.2.1.2.1,x.2.1.2.2.1)).2.2.2))]),(10,.tree 26 (.row 2 (.int .i64)) ((A2e x.1.2.1 x.1.2.2.1 x.1.2.2.2.1 x.1.2.2.2.2.1 (x.2.1.1,x.2.1.2.1,x.2.1.2.2.1)).1.2.1) none),(11,.tree 67 ((.prod (.int .i64) (.prod (.int .i64) (.prod (.int .i64) (.row 2 (.int .i64)))))) ((A2e x.1.2.1 x.1.2.2.1 x.1.2.2.2.1 x.1.2.2.2.2.1 (x.2.1.1,x.2.1.2.1,x.2.1.2.2.1)).1.2.2.1) none),(12,.row 2 (.int .i64) ((A2e x.1.2.1 x.1.2.2.1 x.1.2.2.2.1 x.1.2.2.2.2.1 (x.2.1.1,x.2.1.2.1,x.2.1.2.2.1)).1.2.2.2) [])]
  ok:=by
    rintro⟨⟨_,(inp:Int),(ou:Int),(mo:Int),(li:Bool),_⟩,⟨⟨(cd:List Int),(pt:Int),(sd:Int),_⟩,_⟩⟩
    exact⟨rfl,rfl,by decide⟩
theorem B1I:l6 Tryz.prog 38 n8:=by
  refine F1 Tryz.func38 rfl ?_
  have hres:Tryz.f38.results.toList=[.cell 10 28]:=rfl
  rintro⟨⟨_,(inp:Int),(ou:Int),(mo:Int),(li:Bool),_⟩,⟨⟨(cd:List Int),(pt:Int),(sd:Int),_⟩,_⟩⟩ hc hL hO
  simp only[n8,go_sem] at hL
  simp only[n8,go_sem] at hO
  simp only[n8,St.init,St.initG,Tryz.ntmps38,go_sem] 
  obtain⟨hs0,hi1,hi2,ho1,ho2,hm1,hm2⟩:=(show srcOk 1300 (cd,pt,sd)∧0≤inp∧inp≤4∧0≤ou∧ou≤4∧1≤mo∧mo≤20 from hc)
  rcases hr1:A2c li (cd,pt,sd) with⟨v1,u1,p1,q1⟩
  have hs1:=(A1M li).at hs0 (by omega) hr1
  have hl1:=A6g hs0 (by omega) hr1
  refine oS fun _ hK1=>?_;refine oW A6 ?_;simp only[go_sem];repeat(with_reducible first|refine oA ?_|refine And.intro (by first|exact F5) ?_)
  refine hK1 _ ?_;refine oS fun _ hK2=>?_;refine oW A6 ?_;simp (maxSteps:=2000000)only[List.nodup_cons,List.nodup_nil,List.not_mem_nil,not_false_eq_true,go_sem];repeat(with_reducible first|refine oA ?_|refine And.intro (by first|exact F5) ?_)
  refine hK2 _ ?_;refine W3 (True) ⟨(.c (.po 30 0)::.c (.sc (.int .i64 (inp)))::.c (.sc (.int .i64 (ou)))::.c (.sc (.int .i64 (mo)))::.c (.sc (.bool (li)))::zz::zz::zz::zz::zz::.c (.po 260 0)::.c (.po 276 0)::zz::zz::zz::zz::zz::zz::zz::zz::zz::zz::zz::zz::zz::zz::zz::zz::zz::zz::zz::zz::zz::zz::zz::zz::zz::zz::zz::zz::zz::zz::zz::zz::zz::zz::zz::zz::zz::zz::zz::zz::zz::zz::zz::zz::zz::zz::zz::zz::zz::zz::zz::zz::zz::zz::zz::zz::zz::zz::zz::zz::zz::zz::zz::zz::zz::zz::zz::zz::zz::zz::zz::zz::zz::zz::zz::zz::zz::zz::zz::zz::zz::zz::zz::zz::zz::zz::zz::zz::zz::zz::zz::zz::zz::zz::zz::zz::zz::zz::zz::zz::zz::zz::zz::zz::zz::zz::zz::zz::zz::zz::zz::zz::zz::zz::zz::zz::zz::zz::zz::zz::zz::zz::zz::zz::zz::zz::zz::zz::zz::zz::zz::zz::zz::zz::zz::zz::zz::zz::zz::zz::zz::zz::zz::zz::zz::zz::zz::zz::zz::zz::zz::[]),[(30,.box [.rd [] 5 (.int .u8) (u1),.sc (.int .i64 (p1)),.sc (.int .u64 (q1))]),(260,.box [.sc (.int .i64 (0)),.sc (.slice none 0 0),.sc (.slice none 0 0),.sc (.slice none 0 0)]),(276,.box [.sc (.int .i64 (inp)),.ow 9001,.sc (.slice none 0 0),.ow 9003]),(9001,.tree 26 (.row 2 (.int .i64)) (v1) none),(9003,.row 2 (.int .i64) ([]) [])]⟩ ?_ fun _ hK3=>?_
  ·
   intro hJ;refine oS fun _ hK4=>?_;refine oW A6 ?_;simp only[go_sem];repeat(with_reducible first|refine oA ?_|refine And.intro (by first|exact F5) ?_)
   refine hK4 _ ?_;refine oS fun _ hK5=>?_;refine oS fun _ hK6=>?_;rcases hr2:D8 mo (u1,p1,q1) with⟨v2,u2,p2,q2⟩
   obtain⟨hs2,hv2,hb2,hz2⟩:=H3 hs1 (by omega) hr2
   have hs2:srcOk _ (u2,p2,q2):=hs2
   have hb2:=hb2 (by omega)
   have hw:IntKind.i64.wrap (1+v2)=1+v2:=H4 (by omega)
   refine oW A6 ?_;simp (maxSteps:=2000000)only[hr2,hw,go_sem];repeat(with_reducible first|refine oA ?_|refine And.intro (by first|exact F5) ?_)
   refine hK6 _ ?_;refine A3 ?_;refine A0j (A4K _ 276 2 9102 67 ((.prod (.int .i64) (.prod (.int .i64) (.prod (.int .i64) (.row 2 (.int .i64)))))) (by decide)) ?_;simp (maxSteps:=2000000)only[go_sem];refine A0j (B7x _ 30 0 [580]) ?_;simp (maxSteps:=2000000)only[go_sem];refine A8 (ι:={ k:Nat // k≤(1+v2).toNat }) (fun k=>⟨(.c (.po 30 0)::.c (.sc (.int .i64 (inp)))::.c (.sc (.int .i64 (ou)))::zz::.c (.sc (.bool (li)))::zz::zz::zz::zz::zz::.c (.po 260 0)::.c (.po 276 0)::.c (.ow 580)::.c (.sc (.int .i64 (1+v2 - (k.1:Int))))::zz::zz::zz::zz::zz::zz::zz::zz::zz::zz::zz::zz::zz::zz::zz::zz::zz::zz::zz::zz::zz::zz::zz::zz::zz::zz::zz::zz::zz::zz::zz::zz::zz::zz::zz::zz::zz::zz::zz::zz::zz::zz::zz::zz::zz::zz::zz::zz::zz::zz::zz::zz::zz::zz::zz::zz::zz::zz::zz::zz::zz::zz::zz::zz::zz::zz::zz::zz::zz::zz::zz::zz::zz::zz::zz::zz::zz::zz::zz::zz::zz::zz::zz::zz::zz::zz::zz::zz::zz::zz::zz::zz::zz::zz::zz::zz::zz::zz::zz::zz::zz::zz::zz::zz::zz::zz::zz::zz::zz::zz::zz::zz::zz::zz::zz::zz::zz::zz::zz::zz::zz::zz::zz::zz::zz::zz::zz::zz::zz::zz::zz::zz::zz::zz::zz::zz::zz::zz::zz::zz::zz::zz::zz::zz::zz::zz::zz::zz::zz::[]),[(30,.box [.rd [580] 5 (.int .u8) ((P3 (J1 li inp (v1.length:Int)) k.1 [] (u2,p2,q2)).2.1),.sc (.int .i64 ((P3 (J1 li inp (v1.length:Int)) k.1 [] (u2,p2,q2)).2.2.1)),.sc (.int .u64 ((P3 (J1 li inp (v1.length:Int)) k.1 [] (u2,p2,q2)).2.2.2))]),(260,.box [.sc (.int .i64 (0)),.sc (.slice none 0 0),.sc (.slice none 0 0),.sc (.slice none 0 0)]),(276,.box [.sc (.int .i64 (inp)),.ow 9001,.ow 9002,.ow 9003]),(9001,.tree 26 (.row 2 (.int .i64)) (v1) none),(9002,.tree 67 (.prod (.int .i64) (.prod (.int .i64) (.prod (.int .i64) (.row 2 (.int .i64))))) ((P3 (J1 li inp (v1.length:Int)) k.1 [] (u2,p2,q2)).1) none),(9003,.row 2 (.int .i64) ([]) []),(580,.row 2 (.int .i64) (l3 li) [])]⟩) (fun k=>(1+v2).toNat - k.1) ⟨0,by omega⟩ ?_ ?_
   ·
    refine oK ?_;simp (maxSteps:=2000000)only[go_sem];all_goals((repeat' refine And.intro ?_ ?_)<;>first|rfl|trivial|omega|(simp;done)|(congr 1;done))
   rintro⟨k,hk⟩ K7 hL7
   rcases hit:P3 (J1 li inp (v1.length:Int)) k [] (u2,p2,q2) with⟨v3,u3,p3,q3⟩
   have hs3:=(Cost.it (A2U li inp (v1.length:Int)) k []).at hs2 (by omega) hit
   obtain⟨hl3,ha3⟩:=A6p k v3 (u3,p3,q3) hit
   refine oS fun _ hK8=>?_;refine oS fun _ hK9=>?_;refine oW A6 ?_;simp only[hit,go_sem];repeat(with_reducible first|refine oA ?_|refine And.intro (by first|exact F5) ?_)
   refine hK9 _ ?_;refine oC rfl ?_ ?_
   ·
    intro c1;refine A2 ?_;simp only[go_sem];refine hK8 _ ?_;refine oS fun _ hK10=>?_;refine A3 ?_;refine oS fun _ hK11=>?_;refine oW A6 ?_;simp only[go_sem];repeat(with_reducible first|refine oA ?_|refine And.intro (by first|exact F5) ?_)
    refine hK11 _ ?_;refine oS fun _ hK12=>?_;rcases hr4:H5 (l3 li) (u3,p3,q3) with⟨v4,u4,p4,q4⟩
    obtain⟨hs4,hm4⟩:=J9 hs3 (by omega) (A5g li) hr4
    have hk4:=B1f hm4
    obtain⟨kd,hkd⟩:∃kd:Int,A1i li inp (v3.length:Int) v4=kd:=⟨_,rfl⟩
    have hkr:1≤kd∧kd≤17:=by rw[←hkd];exact B40 hk4
    have hkp:0 < (l3 li).length:=A5g li
    have hkr4:I6 v4 0 17=true:=L8 (by omega) (by omega)
    have hkrd:I6 kd 0 17=true:=L8 (by omega) (by omega)
    rcases hr5:j8 kd (v1.length:Int) (v3.length:Int) (u4,p4,q4) with⟨⟨nk,na,nb,nf⟩,u5,p5,q5⟩
    have hs5:=(o9 kd (v1.length:Int) (v3.length:Int)).at hs4 (by omega) hr5
    have ho5:=A9B hr5
    have hnl:nf.length≤3:=A5C ho5
    rcases hr6:inA inp kd (nk,na,nb,nf) (u5,p5,q5) with⟨⟨mk',ma,mb,mf⟩,u6,p6,q6⟩
    have hs6:=(B0X inp kd (nk,na,nb,nf)).at hs5 (by omega) hr6
    have ho6:=B6X ho5 hr6
    have hml:mf.length≤3:=A5C ho6
    rcases hr11:A4m kd (v1.length:Int) (v3.length:Int) (mk',ma,mb,mf) (u6,p6,q6) with⟨⟨xk,xa,xb,xf⟩,u11,p11,q11⟩
    have hs11:=A6M.at hs6 (by omega) hr11
    have ho11:=B0C ho6 hr11
    have hxl:xf.length≤3:=A5C ho11
    have hnx:(P3 (J1 li inp (v1.length:Int)) (k+1) [] (u2,p2,q2))=(v3++[(xk,xa,xb,xf)],u11,p11,q11):=(X0 hit).trans (by simp only[J1,bnd,hr4,hkd,hr5,hr6,hr11])
    refine oW A6 ?_;simp only[hr4,go_sem];repeat(with_reducible first|refine oA ?_|refine And.intro (by first|exact F5|exact⟨hs3.le (by omega),hkp⟩) ?_)
    refine hK12 _ ?_;refine W3 (True) ⟨(.c (.po 30 0)::.c (.sc (.int .i64 (inp)))::.c (.sc (.int .i64 (ou)))::zz::.c (.sc (.bool (li)))::zz::zz::zz::zz::zz::.c (.po 260 0)::.c (.po 276 0)::.c (.ow 580)::.c (.sc (.int .i64 (1+v2 - (k:Int))))::.c (.sc (.int .i64 (v3.length)))::.c (.sc (.int .i64 (kd)))::zz::zz::zz::zz::zz::zz::zz::zz::zz::zz::zz::zz::zz::zz::zz::zz::zz::zz::zz::zz::zz::zz::zz::zz::zz::zz::zz::zz::zz::zz::zz::zz::zz::zz::zz::zz::zz::zz::zz::zz::zz::zz::zz::zz::zz::zz::zz::zz::zz::zz::zz::zz::zz::zz::zz::zz::zz::zz::zz::zz::zz::zz::zz::zz::zz::zz::zz::zz::zz::zz::zz::zz::zz::zz::zz::zz::zz::zz::zz::zz::zz::zz::zz::zz::zz::zz::zz::zz::zz::zz::zz::zz::zz::zz::zz::zz::zz::zz::zz::zz::zz::zz::zz::zz::zz::zz::zz::zz::zz::zz::zz::zz::zz::zz::zz::zz::zz::zz::zz::zz::zz::zz::zz::zz::zz::zz::zz::zz::zz::zz::zz::zz::zz::zz::zz::zz::zz::zz::zz::zz::zz::zz::zz::zz::zz::zz::zz::[]),[(30,.box [.rd [580] 5 (.int .u8) (u4),.sc (.int .i64 (p4)),.sc (.int .u64 (q4))]),(260,.box [.sc (.int .i64 (0)),.sc (.slice none 0 0),.sc (.slice none 0 0),.sc (.slice none 0 0)]),(276,.box [.sc (.int .i64 (inp)),.ow 9001,.ow 9002,.ow 9003]),(9001,.tree 26 (.row 2 (.int .i64)) (v1) none),(9002,.tree 67 (.prod (.int .i64) (.prod (.int .i64) (.prod (.int .i64) (.row 2 (.int .i64))))) (v3) none),(9003,.row 2 (.int .i64) ([]) []),(580,.row 2 (.int .i64) (l3 li) [])]⟩ ?_ fun _ hK13=>?_
    ·
     intro hJ;refine oS fun _ hK14=>?_;refine oW A6 ?_;simp (maxSteps:=2000000)only[List.nodup_cons,List.nodup_nil,List.not_mem_nil,not_false_eq_true,hr5,go_sem];repeat(with_reducible first|refine oA ?_|refine And.intro (by first|exact F5|exact⟨hs4.le (by omega),hkrd⟩) ?_)
     refine hK14 _ ?_;refine W3 (True) ⟨(.c (.po 30 0)::.c (.sc (.int .i64 (inp)))::.c (.sc (.int .i64 (ou)))::zz::.c (.sc (.bool (li)))::zz::zz::zz::zz::zz::.c (.po 260 0)::.c (.po 276 0)::.c (.ow 580)::.c (.sc (.int .i64 (1+v2 - (k:Int))))::.c (.sc (.int .i64 (v3.length)))::.c (.sc (.int .i64 (kd)))::.c (.po 356 0)::zz::zz::zz::zz::zz::zz::zz::zz::zz::zz::zz::zz::zz::zz::zz::zz::zz::zz::zz::zz::zz::zz::zz::zz::zz::zz::zz::zz::zz::zz::zz::zz::zz::zz::zz::zz::zz::zz::zz::zz::zz::zz::zz::zz::zz::zz::zz::zz::zz::zz::zz::zz::zz::zz::zz::zz::zz::zz::zz::zz::zz::zz::zz::zz::zz::zz::zz::zz::zz::zz::zz::zz::zz::zz::zz::zz::zz::zz::zz::zz::zz::zz::zz::zz::zz::zz::zz::zz::zz::zz::zz::zz::zz::zz::zz::zz::zz::zz::zz::zz::zz::zz::zz::zz::zz::zz::zz::zz::zz::zz::zz::zz::zz::zz::zz::zz::zz::zz::zz::zz::zz::zz::zz::zz::zz::zz::zz::zz::zz::zz::zz::zz::zz::zz::zz::zz::zz::zz::zz::zz::zz::zz::zz::zz::zz::zz::[]),[(30,.box [.rd [580] 5 (.int .u8) (u6),.sc (.int .i64 (p6)),.sc (.int .u64 (q6))]),(260,.box [.sc (.int .i64 (0)),.sc (.slice none 0 0),.sc (.slice none 0 0),.sc (.slice none 0 0)]),(276,.box [.sc (.int .i64 (inp)),.ow 9001,.ow 9002,.ow 9003]),(9001,.tree 26 (.row 2 (.int .i64)) (v1) none),(9002,.tree 67 (.prod (.int .i64) (.prod (.int .i64) (.prod (.int .i64) (.row 2 (.int .i64))))) (v3) none),(9003,.row 2 (.int .i64) ([]) []),(580,.row 2 (.int .i64) (l3 li) []),(356,.box [.sc (.int .i64 (mk')),.sc (.int .i64 (ma)),.sc (.int .i64 (mb)),.ow 9006]),(9006,.row 2 (.int .i64) (mf) [])]⟩ ?_ fun _ hK15=>?_
     ·
      intro hJ;refine W3 (True) ⟨(.c (.po 30 0)::.c (.sc (.int .i64 (inp)))::.c (.sc (.int .i64 (ou)))::zz::.c (.sc (.bool (li)))::zz::zz::zz::zz::zz::.c (.po 260 0)::.c (.po 276 0)::.c (.ow 580)::.c (.sc (.int .i64 (1+v2 - (k:Int))))::zz::zz::.c (.po 356 0)::zz::zz::zz::zz::zz::zz::zz::zz::zz::zz::zz::zz::zz::zz::zz::zz::zz::zz::zz::zz::zz::zz::zz::zz::zz::zz::zz::zz::zz::zz::zz::zz::zz::zz::zz::zz::zz::zz::zz::zz::zz::zz::zz::zz::zz::zz::zz::zz::zz::zz::zz::zz::zz::zz::zz::zz::zz::zz::zz::zz::zz::zz::zz::zz::zz::zz::zz::zz::zz::zz::zz::zz::zz::zz::zz::zz::zz::zz::zz::zz::zz::zz::zz::zz::zz::zz::zz::zz::zz::zz::zz::zz::zz::zz::zz::zz::zz::zz::zz::zz::zz::zz::zz::zz::zz::zz::zz::zz::zz::zz::zz::zz::zz::zz::zz::zz::zz::zz::zz::zz::zz::zz::zz::zz::zz::zz::zz::zz::zz::zz::zz::zz::zz::zz::zz::zz::zz::zz::zz::zz::zz::zz::zz::zz::zz::zz::[]),[(30,.box [.rd [580] 5 (.int .u8) (u11),.sc (.int .i64 (p11)),.sc (.int .u64 (q11))]),(260,.box [.sc (.int .i64 (0)),.sc (.slice none 0 0),.sc (.slice none 0 0),.sc (.slice none 0 0)]),(276,.box [.sc (.int .i64 (inp)),.ow 9001,.ow 9002,.ow 9003]),(9001,.tree 26 (.row 2 (.int .i64)) (v1) none),(9002,.tree 67 (.prod (.int .i64) (.prod (.int .i64) (.prod (.int .i64) (.row 2 (.int .i64))))) (v3) none),(9003,.row 2 (.int .i64) ([]) []),(580,.row 2 (.int .i64) (l3 li) []),(356,.box [.sc (.int .i64 (xk)),.sc (.int .i64 (xa)),.sc (.int .i64 (xb)),.ow 9006]),(9006,.row 2 (.int .i64) (xf) [])]⟩ ?_ fun _ hK16=>?_
      ·
       intro hJ;refine oW A6 ?_;simp (maxSteps:=2000000)only[List.nodup_cons,List.nodup_nil,List.not_mem_nil,not_false_eq_true,go_sem];repeat(with_reducible first|refine oA ?_|refine And.intro (by first|exact F5) ?_)
       refine hK10 _ ?_;refine oW A6 ?_;simp only[go_sem];repeat(with_reducible first|refine oA ?_|refine And.intro (by first|exact F5) ?_)
       refine hL7 ⟨k+1,by omega⟩ _ (oK ?_) ?_
       ·
        simp (maxSteps:=2000000)only[go_sem];all_goals(try simp only[hnx])
        all_goals((repeat' refine And.intro ?_ ?_)<;>first|rfl|trivial|(rw[H4 (by omega)];omega)|(congr 1;done))
       ·
        first|(simp only[];omega)|omega|(simp;omega)
      refine oS fun _ hK17=>?_;rcases hr7:A0L 3 (u6,p6,q6) with⟨v7,u7,p7,q7⟩
      have hs7:=A3M hs6 (by omega) hr7
      refine oW A6 ?_;simp (maxSteps:=2000000)only[hr7,go_sem];repeat' (with_reducible first|refine oA ?_|refine And.intro (by first|exact F5) ?_|refine oT (fun g17=>?_) (fun g17=>?_)|refine oE (fun g17=>?_) (fun g17=>?_))
      all_goals
       refine hK17 _ ?_;refine D5 rfl ?_ ?_
       ·
        intro c5;try simp only[zA,zB,zC,zD,zE,zF,zG,zH,zI] at c5
        all_goals
         have hbk:A5v v7 (v3.length:Int) kd=true:=by rw[show v7=true by assumption];exact B7Y (by omega) (by omega) (by omega)
         rcases hr8:j8 kd (v1.length:Int) 1 (u7,p7,q7) with⟨⟨ok',oa,ob',of'⟩,u8,p8,q8⟩
         have hs8:=(o9 kd (v1.length:Int) 1).at hs7 (by omega) hr8
         have ho8:=A9B hr8
         have hol:of'.length≤3:=A5C ho8
         refine oS fun _ hK18=>?_;refine oW A6 ?_;simp (maxSteps:=2000000)only[List.nodup_cons,List.nodup_nil,List.not_mem_nil,not_false_eq_true,hr8,go_sem];repeat(with_reducible first|refine oA ?_|refine And.intro (by first|exact F5|exact⟨hs7.le (by omega),hkrd⟩) ?_)
         refine hK18 _ ?_;refine oS fun _ hK19=>?_;refine oW A6 ?_;simp only[go_sem];repeat(with_reducible first|refine oA ?_|refine And.intro (by first|exact F5) ?_)
         refine hK19 _ ?_;refine A3 ?_;refine A8 (ι:={ j:Nat // j≤of'.length }) (fun k'=>⟨(.c (.po 30 0)::.c (.sc (.int .i64 (inp)))::.c (.sc (.int .i64 (ou)))::zz::.c (.sc (.bool (li)))::zz::zz::zz::zz::zz::.c (.po 260 0)::.c (.po 276 0)::.c (.ow 580)::.c (.sc (.int .i64 (1+v2 - (k:Int))))::.c (.sc (.int .i64 (v3.length)))::.c (.sc (.int .i64 (kd)))::.c (.po 356 0)::.c (.sc (.int .i64 (k'.1)))::zz::zz::zz::zz::zz::zz::zz::zz::zz::zz::zz::zz::zz::zz::zz::zz::zz::zz::zz::zz::zz::zz::zz::zz::zz::zz::zz::zz::zz::zz::zz::zz::zz::zz::zz::zz::zz::zz::zz::zz::zz::zz::zz::zz::zz::zz::zz::zz::zz::zz::zz::zz::zz::zz::zz::zz::zz::zz::zz::zz::zz::zz::zz::zz::zz::zz::zz::zz::zz::zz::zz::zz::zz::zz::zz::zz::zz::zz::zz::zz::zz::zz::zz::zz::zz::zz::zz::zz::zz::zz::zz::zz::zz::zz::zz::zz::zz::zz::zz::zz::zz::zz::zz::zz::zz::zz::zz::zz::zz::zz::zz::zz::zz::zz::zz::zz::zz::zz::zz::zz::zz::zz::zz::zz::zz::zz::zz::zz::zz::zz::zz::zz::zz::zz::zz::zz::zz::zz::zz::zz::zz::zz::zz::zz::zz::[]),[(30,.box [.rd [580] 5 (.int .u8) ((P3 (I2 (A2Q (v3.length:Int))) k'.1 [] (u8,p8,q8)).2.1),.sc (.int .i64 ((P3 (I2 (A2Q (v3.length:Int))) k'.1 [] (u8,p8,q8)).2.2.1)),.sc (.int .u64 ((P3 (I2 (A2Q (v3.length:Int))) k'.1 [] (u8,p8,q8)).2.2.2))]),(260,.box [.sc (.int .i64 (0)),.sc (.slice none 0 0),.sc (.slice none 0 0),.sc (.slice none 0 0)]),(276,.box [.sc (.int .i64 (inp)),.ow 9001,.ow 9002,.ow 9003]),(9001,.tree 26 (.row 2 (.int .i64)) (v1) none),(9002,.tree 67 (.prod (.int .i64) (.prod (.int .i64) (.prod (.int .i64) (.row 2 (.int .i64))))) (v3) none),(9003,.row 2 (.int .i64) ([]) []),(580,.row 2 (.int .i64) (l3 li) []),(356,.box [.sc (.int .i64 (ok')),.sc (.int .i64 (oa)),.sc (.int .i64 (ob')),.ow 9006]),(9006,.row 2 (.int .i64) ((P3 (I2 (A2Q (v3.length:Int))) k'.1 [] (u8,p8,q8)).1++of'.drop k'.1) [])]⟩) (fun k'=>of'.length - k'.1) ⟨0,by omega⟩ ?_ ?_
         ·
          refine oK ?_;simp (maxSteps:=2000000)only[go_sem];all_goals((repeat' refine And.intro ?_ ?_)<;>first|rfl|trivial|omega|(simp;done)|(congr 1;done))
         rintro⟨j,hj⟩ K20 hL20
         rcases hiv:P3 (I2 (A2Q (v3.length:Int))) j [] (u8,p8,q8) with⟨v9,u9,p9,q9⟩
         have hs9:=(Cost.it (P0 (A62 (v3.length:Int))) j []).at hs8 (by omega) hiv
         have hl9:v9.length=j:=by have:=a8 (m:=A2Q (v3.length:Int)) (k:=j) (s:=(u8,p8,q8)) (xs:=[]);rw[hiv] at this;simpa using this
         have hlo:(v9++of'.drop j).length=of'.length:=by rw[List.length_append,List.length_drop];omega
         refine oS fun _ hK21=>?_;refine oS fun _ hK22=>?_;refine oW A6 ?_;simp (maxSteps:=2000000)only[hiv,hlo,go_sem];repeat(with_reducible first|refine oA ?_|refine And.intro (by first|exact F5) ?_)
         refine hK22 _ ?_;refine D5 rfl ?_ ?_
         ·
          intro c6;try simp only[zA,zB,zC,zD,zE,zF,zG,zH,zI] at c6
          all_goals
           refine A2 ?_;simp only[go_sem];refine hK21 _ ?_;refine oS fun _ hK23=>?_;refine A3 ?_;rcases hr10:D8 2 (u9,p9,q9) with⟨v10,u10,p10,q10⟩
           obtain⟨hs10,hv10,hb10,hz10⟩:=H3 hs9 (by omega) hr10
           have hs10:srcOk _ (u10,p10,q10):=hs10
           have hb10:=hb10 (by omega)
           have hw1:IntKind.i64.wrap ((v3.length:Int) - 1)=(v3.length:Int) - 1:=H4 (by omega)
           have hw2:IntKind.i64.wrap ((v3.length:Int) - 1 - v10)=(v3.length:Int) - 1 - v10:=H4 (by omega)
           have hnv:(P3 (I2 (A2Q (v3.length:Int))) (j+1) [] (u8,p8,q8))=(v9++[r9 0 ((v3.length:Int) - 1 - v10)],u10,p10,q10):=(X0 hiv).trans (by simp only[A2Q,I2,bnd,hr10])
           have hset:(v9++of'.drop j).set j (r9 0 ((v3.length:Int) - 1 - v10))=v9++[r9 0 ((v3.length:Int) - 1 - v10)]++of'.drop (j+1):=B5L hl9 (by omega)
           refine oR A6
             [[],[0],[],[],[3],[],[5],[3,4,5,6],[3,4,5,6,7],[0,1,2,3,4,5,6,7,8],[0,1,2,3,4,5,6,7,8,9]]
             [[30,1812,1813,1814,1815,1816,1817,1818,1819,1820,1821,1822,1823,1824,1825,1826,1827],[30,1812,1813,1814,1815,1816,1817,1818,1819,1820,1821,1822,1823,1824,1825,1826,1827],[30,1812,1813,1814,1815,1816,1817,1818,1819,1820,1821,1822,1823,1824,1825,1826,1827],[30,1812,1813,1814,1815,1816,1817,1818,1819,1820,1821,1822,1823,1824,1825,1826,1827],[30,1812,1813,1814,1815,1816,1817,1818,1819,1820,1821,1822,1823,1824,1825,1826,1827],[],[],[],[],[],[]]
             [[],[],[],[],[],[],[30,1812,1813,1814,1815,1816,1817,1818,1819,1820,1821,1822,1823,1824,1825,1826,1827],[],[],[],[]] (by kernel_rfl) (by kernel_rfl) (A7 (acc:=[]) ?_)
           simp (maxSteps:=2000000)only[hr10,hw1,hw2,hlo,go_sem];repeat(with_reducible first|refine oD ?_|refine And.intro (by first|exact F5) ?_)
           refine hK23 _ ?_;refine oW A6 ?_;simp only[go_sem];repeat(with_reducible first|refine oA ?_|refine And.intro (by first|exact F5) ?_)
           refine hL20 ⟨j+1,by omega⟩ _ (oK ?_) ?_
           ·
            simp (maxSteps:=2000000)only[go_sem];all_goals(try simp only[hnv])
            all_goals((repeat' refine And.intro ?_ ?_)<;>first|rfl|trivial|exact wk (by omega)|exact hset|(congr 1;exact hset)|(congr 1;done))
           ·
            first|(simp only[];omega)|omega|(simp;omega)
         ·
          intro c6;try simp only[zA,zB,zC,zD,zE,zF,zG,zH,zI] at c6
          all_goals
           obtain rfl:j=of'.length:=by omega
           have hdr:v9++of'.drop of'.length=v9:=by simp
           have hq:((ok',oa,ob',v9),u9,p9,q9)=((xk,xa,xb,xf),u11,p11,q11):=by rw[←hr11];simp only[A4m,bnd,hr7,hbk,hr8,hiv]
           simp only[Prod.mk.injEq] at hq
           obtain⟨⟨rfl,rfl,rfl,rfl⟩,rfl,rfl,rfl⟩:=hq
           refine B6 ?_;simp only[go_sem];refine hK16 _ (oK ?_) ?_
           ·
            simp (maxSteps:=2000000)only[go_sem];all_goals(first|rfl|trivial|((repeat' refine And.intro ?_ ?_)<;>first|rfl|trivial|exact hk1.symm|exact hk2.symm|exact hkf|omega|exact hdr|(congr 1;exact hdr)|(congr 1;done)|(simp;done)))
           ·
            trivial
       ·
        intro c5;try simp only[zA,zB,zC,zD,zE,zF,zG,zH,zI] at c5
        all_goals
         have hbk:A5v v7 (v3.length:Int) kd=false:=by first|(rw[show v7=false by assumption];rfl)|exact B5m (by omega)
         have hq:((mk',ma,mb,mf),u7,p7,q7)=((xk,xa,xb,xf),u11,p11,q11):=by rw[←hr11];simp only[A4m,bnd,hr7,hbk]
         simp only[Prod.mk.injEq] at hq
         obtain⟨⟨rfl,rfl,rfl,rfl⟩,rfl,rfl,rfl⟩:=hq
         refine A2 ?_;simp only[go_sem];refine hK16 _ (oK ?_) ?_
         ·
          simp (maxSteps:=2000000)only[go_sem];all_goals(first|rfl|trivial|((repeat' refine And.intro ?_ ?_)<;>first|rfl|trivial|exact hk1.symm|exact hk2.symm|exact hkf|omega|exact hdr|(congr 1;exact hdr)|(congr 1;done)|(simp;done)))
         ·
          trivial
     refine oS fun _ hK24=>?_;refine oW A6 ?_;simp only[go_sem];repeat(with_reducible first|refine oA ?_|refine And.intro (by first|exact F5) ?_)
     refine hK24 _ ?_;refine oC rfl ?_ ?_
     ·
      intro c4;rcases hp:D8 inp (u5,p5,q5) with⟨y,u',p',q'⟩
      have hq:((nk,y,nb,nf),u',p',q')=((mk',ma,mb,mf),u6,p6,q6):=by rw[←hr6];simp only[inA,decide_eq_true c4,bnd,hp]
      simp only[Prod.mk.injEq] at hq
      obtain⟨⟨rfl,rfl,rfl,rfl⟩,rfl,rfl,rfl⟩:=hq
      refine oW A6 ?_;simp (maxSteps:=2000000)only[hp,go_sem];repeat(with_reducible first|refine oA ?_|refine And.intro (by first|exact F5) ?_)
      refine hK15 _ (oK ?_) ?_
      ·
       simp (maxSteps:=2000000)only[go_sem];all_goals(first|rfl|trivial|((repeat' refine And.intro ?_ ?_)<;>first|rfl|trivial|exact hk1.symm|exact hk2.symm|exact hkf|omega|exact hdr|(congr 1;exact hdr)|(congr 1;done)|(simp;done)))
      ·
       trivial
     intro c4;have hq:((nk,na,nb,nf),u5,p5,q5)=((mk',ma,mb,mf),u6,p6,q6):=by rw[←hr6];simp only[inA,decide_eq_false c4]
     simp only[Prod.mk.injEq] at hq
     obtain⟨⟨rfl,rfl,rfl,rfl⟩,rfl,rfl,rfl⟩:=hq
     refine A2 ?_;simp only[go_sem];refine hK15 _ (oK ?_) ?_
     ·
      simp (maxSteps:=2000000)only[go_sem];all_goals(first|rfl|trivial|((repeat' refine And.intro ?_ ?_)<;>first|rfl|trivial|exact hk1.symm|exact hk2.symm|exact hkf|omega|exact hdr|(congr 1;exact hdr)|(congr 1;done)|(simp;done)))
     ·
      trivial
    refine oS fun _ hK25=>?_;refine oW A6 ?_;simp (maxSteps:=2000000)only[go_sem];repeat' (with_reducible first|refine oA ?_|refine And.intro (by first|exact F5|exact hkr4) ?_|refine oT (fun g10=>?_) (fun g10=>?_)|refine oE (fun g10=>?_) (fun g10=>?_))
    all_goals
     refine hK25 _ ?_;refine D5 rfl ?_ ?_
     ·
      intro c2;try simp only[zA,zB,zC,zD,zE,zF,zG,zH,zI] at c2
      all_goals
       have hkf:=B89 hkd (by omega)
       refine oS fun _ hK26=>?_;refine oW A6 ?_;simp only[go_sem];repeat(with_reducible first|refine oA ?_|refine And.intro (by first|exact F5) ?_)
       refine hK26 _ ?_;refine oS fun _ hK27=>?_;refine oW A6 ?_;simp only[go_sem];repeat(with_reducible first|refine oA ?_|refine And.intro (by first|exact F5) ?_)
       refine hK27 _ ?_;refine D5 rfl ?_ ?_
       ·
        intro c3;try simp only[zA,zB,zC,zD,zE,zF,zG,zH,zI] at c3
        all_goals
         have hk1:kd=1:=hkf.1 c3
         refine oW A6 ?_;simp only[go_sem];repeat(with_reducible first|refine oA ?_|refine And.intro (by first|exact F5) ?_)
         refine hK13 _ (oK ?_) ?_
         ·
          simp (maxSteps:=2000000)only[go_sem];all_goals(first|rfl|trivial|((repeat' refine And.intro ?_ ?_)<;>first|rfl|trivial|exact hk1.symm|exact hk2.symm|exact hkf|omega|exact hdr|(congr 1;exact hdr)|(congr 1;done)|(simp;done)))
         ·
          trivial
       ·
        intro c3;try simp only[zA,zB,zC,zD,zE,zF,zG,zH,zI] at c3
        all_goals
         have hk2:kd=2:=hkf.2 c3
         refine A2 ?_;simp only[go_sem];refine hK13 _ (oK ?_) ?_
         ·
          simp (maxSteps:=2000000)only[go_sem];all_goals(first|rfl|trivial|((repeat' refine And.intro ?_ ?_)<;>first|rfl|trivial|exact hk1.symm|exact hk2.symm|exact hkf|omega|exact hdr|(congr 1;exact hdr)|(congr 1;done)|(simp;done)))
         ·
          trivial
     ·
      intro c2;try simp only[zA,zB,zC,zD,zE,zF,zG,zH,zI] at c2
      all_goals
       have hkf:=B8H hkd (by omega)
       refine A2 ?_;simp only[go_sem];refine hK13 _ (oK ?_) ?_
       ·
        simp (maxSteps:=2000000)only[go_sem];all_goals(first|rfl|trivial|((repeat' refine And.intro ?_ ?_)<;>first|rfl|trivial|exact hk1.symm|exact hk2.symm|exact hkf|omega|exact hdr|(congr 1;exact hdr)|(congr 1;done)|(simp;done)))
       ·
        trivial
   intro c1;obtain rfl:k=(1+v2).toNat:=by omega
   refine B6 ?_;simp only[go_sem];refine hK5 _ ?_;refine oS fun _ hK28=>?_;refine oW A6 ?_;simp only[go_sem];repeat(with_reducible first|refine oA ?_|refine And.intro (by first|exact F5) ?_)
   refine hK28 _ ?_;refine oS fun _ hK29=>?_;refine oS fun _ hK30=>?_;refine oW A6 ?_;simp only[go_sem];repeat(with_reducible first|refine oA ?_|refine And.intro (by first|exact F5) ?_)
   refine hK30 _ ?_;refine A3 ?_;refine A8 (ι:={ i:Nat // i≤v3.length }) (fun k'=>⟨(.c (.po 30 0)::zz::.c (.sc (.int .i64 (ou)))::zz::zz::zz::zz::zz::zz::zz::.c (.po 260 0)::.c (.po 276 0)::zz::zz::zz::zz::zz::zz::.c (.sc (.int .i64 (v3.length)))::.c (.sc (.int .i64 (k'.1)))::zz::zz::zz::zz::zz::zz::zz::zz::zz::zz::zz::zz::zz::zz::zz::zz::zz::zz::zz::zz::zz::zz::zz::zz::zz::zz::zz::zz::zz::zz::zz::zz::zz::zz::zz::zz::zz::zz::zz::zz::zz::zz::zz::zz::zz::zz::zz::zz::zz::zz::zz::zz::zz::zz::zz::zz::zz::zz::zz::zz::zz::zz::zz::zz::zz::zz::zz::zz::zz::zz::zz::zz::zz::zz::zz::zz::zz::zz::zz::zz::zz::zz::zz::zz::zz::zz::zz::zz::zz::zz::zz::zz::zz::zz::zz::zz::zz::zz::zz::zz::zz::zz::zz::zz::zz::zz::zz::zz::zz::zz::zz::zz::zz::zz::zz::zz::zz::zz::zz::zz::zz::zz::zz::zz::zz::zz::zz::zz::zz::zz::zz::zz::zz::zz::zz::zz::zz::zz::zz::zz::zz::zz::zz::[]),[(30,.box [.rd [] 5 (.int .u8) ((itI (N8 (v3.length:Int)) k'.1 v3 (u3,p3,q3)).2.1),.sc (.int .i64 ((itI (N8 (v3.length:Int)) k'.1 v3 (u3,p3,q3)).2.2.1)),.sc (.int .u64 ((itI (N8 (v3.length:Int)) k'.1 v3 (u3,p3,q3)).2.2.2))]),(260,.box [.sc (.int .i64 (0)),.sc (.slice none 0 0),.sc (.slice none 0 0),.sc (.slice none 0 0)]),(276,.box [.sc (.int .i64 (inp)),.ow 9001,.ow 9002,.ow 9003]),(9001,.tree 26 (.row 2 (.int .i64)) (v1) none),(9002,.tree 67 (.prod (.int .i64) (.prod (.int .i64) (.prod (.int .i64) (.row 2 (.int .i64))))) ((itI (N8 (v3.length:Int)) k'.1 v3 (u3,p3,q3)).1) none),(9003,.row 2 (.int .i64) ([]) [])]⟩) (fun k'=>v3.length - k'.1) ⟨0,by omega⟩ ?_ ?_
   ·
    refine oK ?_;simp (maxSteps:=2000000)only[go_sem];all_goals((repeat' refine And.intro ?_ ?_)<;>first|rfl|trivial|omega|(simp;done)|(congr 1;done))
   rintro⟨i,hi⟩ K31 hL31
   rcases hid:itI (N8 (v3.length:Int)) i v3 (u3,p3,q3) with⟨v12,u12,p12,q12⟩
   have hs12:=(Cost.itI (A4n (v3.length:Int)) i v3).at hs3 (by omega) hid
   obtain⟨hl12,ha12⟩:=B2X ha3 i v12 (u12,p12,q12) hid
   have hxi:i < v3.length→v12.getD i n0∈v12:=fun h=>C6 (by omega)
   refine oS fun _ hK32=>?_;refine oS fun _ hK33=>?_;refine oW A6 ?_;simp only[go_sem];repeat(with_reducible first|refine oA ?_|refine And.intro (by first|exact F5) ?_)
   refine hK33 _ ?_;refine oC rfl ?_ ?_
   ·
    intro c7;refine A2 ?_;simp only[go_sem];refine hK32 _ ?_;refine oS fun _ hK34=>?_;refine A3 ?_;refine oS fun _ hK35=>?_;rcases hr13:A0L 2 (u12,p12,q12) with⟨v13,u13,p13,q13⟩
    have hs13:=A3M hs12 (by omega) hr13
    refine oW A6 ?_;simp (maxSteps:=2000000)only[hid,hr13,hl12,go_sem];repeat' (with_reducible first|refine oA ?_|refine And.intro (by first|exact F5) ?_|refine oT (fun g28=>?_) (fun g28=>?_)|refine oE (fun g28=>?_) (fun g28=>?_))
    all_goals
     refine hK35 _ ?_;refine D5 rfl ?_ ?_
     ·
      intro c8;try simp only[zA,zB,zC,zD,zE,zF,zG,zH,zI] at c8
      all_goals
       have h6:(v12.getD i n0).1=6:=by assumption
       have hv13:v13=true:=by assumption
       have hl6:(v12.getD i ((0,0,0,[]):B1)).2.2.2.length=1:=B8v (ha12 _ (hxi (by omega))) h6
       rcases hr14:D8 (v3.length:Int) (u13,p13,q13) with⟨v14,u14,p14,q14⟩
       obtain⟨hs14,hv14,hb14,hz14⟩:=H3 hs13 (by omega) hr14
       have hs14:srcOk _ (u14,p14,q14):=hs14
       have hnd:(itI (N8 (v3.length:Int)) (i+1) v3 (u3,p3,q3))=(v12.set i (B9I (v12.getD i n0) v14),u14,p14,q14):=(A6T hid).trans (by simp only[N8,bnd,decide_eq_true h6,hr13,hv13,hr14])
       refine oR A6
         [[],[0],[],[0,1,2],[0,1,2,3],[0,1,2,3,4],[],[],[6,7],[0,1,2,3,4,5,6,7,8],[0,1,2,3,4,5,6,7,8,9]]
         [[30,2404,2405,2406,2407,2408,2409,2410,2411,2412,2413,2414,2415,2416,2417,2418,2419],[30,2404,2405,2406,2407,2408,2409,2410,2411,2412,2413,2414,2415,2416,2417,2418,2419],[30,2404,2405,2406,2407,2408,2409,2410,2411,2412,2413,2414,2415,2416,2417,2418,2419],[30,2404,2405,2406,2407,2408,2409,2410,2411,2412,2413,2414,2415,2416,2417,2418,2419],[30,2404,2405,2406,2407,2408,2409,2410,2411,2412,2413,2414,2415,2416,2417,2418,2419],[30,2404,2405,2406,2407,2408,2409,2410,2411,2412,2413,2414,2415,2416,2417,2418,2419],[],[],[],[],[]]
         [[],[],[],[],[],[],[],[],[30,2404,2405,2406,2407,2408,2409,2410,2411,2412,2413,2414,2415,2416,2417,2418,2419],[],[]] (by kernel_rfl) (by kernel_rfl) (A7 (acc:=[]) ?_)
       simp (maxSteps:=2000000)only[List.nodup_cons,List.nodup_nil,List.not_mem_nil,not_false_eq_true,hr14,hl12,hl6,go_sem];repeat(with_reducible first|refine oD ?_|refine And.intro (by first|exact F5) ?_)
       refine hK34 _ ?_;refine oW A6 ?_;simp only[go_sem];repeat(with_reducible first|refine oA ?_|refine And.intro (by first|exact F5) ?_)
       refine hL31 ⟨i+1,by omega⟩ _ (oK ?_) ?_
       ·
        simp (maxSteps:=2000000)only[go_sem];all_goals(try simp only[hnd])
        all_goals((repeat' refine And.intro ?_ ?_)<;>first|rfl|trivial|exact wk (by omega)|(congr 1;done))
       ·
        first|(simp only[];omega)|omega|(simp;omega)
     ·
      intro c8;try simp only[zA,zB,zC,zD,zE,zF,zG,zH,zI] at c8
      all_goals
       first|(have hnd:(itI (N8 (v3.length:Int)) (i+1) v3 (u3,p3,q3))=(v12,u12,p12,q12):=by(rw[A6T hid,N8,decide_eq_false (show ¬(v12.getD i n0).1=6 by assumption)]))|(have hnd:(itI (N8 (v3.length:Int)) (i+1) v3 (u3,p3,q3))=(v12,u13,p13,q13):=by(rw[A6T hid,N8,decide_eq_true (show (v12.getD i n0).1=6 by assumption)];simp only[bnd,hr13,show v13=false from c8]))
       refine A2 ?_;simp only[go_sem];refine hK34 _ ?_;refine oW A6 ?_;simp only[go_sem];repeat(with_reducible first|refine oA ?_|refine And.intro (by first|exact F5) ?_)
       refine hL31 ⟨i+1,by omega⟩ _ (oK ?_) ?_
       ·
        simp (maxSteps:=2000000)only[go_sem];all_goals(try simp only[hnd])
        all_goals((repeat' refine And.intro ?_ ?_)<;>first|rfl|trivial|exact wk (by omega)|(congr 1;done))
       ·
        first|(simp only[];omega)|omega|(simp;omega)
   intro c7;obtain rfl:i=v3.length:=by omega
   refine B6 ?_;simp only[go_sem];refine hK29 _ ?_;refine oS fun _ hK36=>?_;refine oS fun _ hK37=>?_;refine oW A6 ?_;simp only[go_sem];repeat(with_reducible first|refine oA ?_|refine And.intro (by first|exact F5) ?_)
   refine hK37 _ ?_;refine A3 ?_;refine A8 (ι:={ j:Nat // j≤ou.toNat }) (fun k'=>⟨(.c (.po 30 0)::zz::zz::zz::zz::zz::zz::zz::zz::zz::.c (.po 260 0)::.c (.po 276 0)::zz::zz::zz::zz::zz::zz::.c (.sc (.int .i64 (v3.length)))::zz::.c (.sc (.int .i64 (ou - (k'.1:Int))))::zz::zz::zz::zz::zz::zz::zz::zz::zz::zz::zz::zz::zz::zz::zz::zz::zz::zz::zz::zz::zz::zz::zz::zz::zz::zz::zz::zz::zz::zz::zz::zz::zz::zz::zz::zz::zz::zz::zz::zz::zz::zz::zz::zz::zz::zz::zz::zz::zz::zz::zz::zz::zz::zz::zz::zz::zz::zz::zz::zz::zz::zz::zz::zz::zz::zz::zz::zz::zz::zz::zz::zz::zz::zz::zz::zz::zz::zz::zz::zz::zz::zz::zz::zz::zz::zz::zz::zz::zz::zz::zz::zz::zz::zz::zz::zz::zz::zz::zz::zz::zz::zz::zz::zz::zz::zz::zz::zz::zz::zz::zz::zz::zz::zz::zz::zz::zz::zz::zz::zz::zz::zz::zz::zz::zz::zz::zz::zz::zz::zz::zz::zz::zz::zz::zz::zz::zz::zz::zz::zz::zz::zz::[]),[(30,.box [.rd [] 5 (.int .u8) ((P3 (I2 (A4X (v3.length:Int))) k'.1 [] (u12,p12,q12)).2.1),.sc (.int .i64 ((P3 (I2 (A4X (v3.length:Int))) k'.1 [] (u12,p12,q12)).2.2.1)),.sc (.int .u64 ((P3 (I2 (A4X (v3.length:Int))) k'.1 [] (u12,p12,q12)).2.2.2))]),(260,.box [.sc (.int .i64 (0)),.sc (.slice none 0 0),.sc (.slice none 0 0),.sc (.slice none 0 0)]),(276,.box [.sc (.int .i64 (inp)),.ow 9001,.ow 9002,.ow 9003]),(9001,.tree 26 (.row 2 (.int .i64)) (v1) none),(9002,.tree 67 (.prod (.int .i64) (.prod (.int .i64) (.prod (.int .i64) (.row 2 (.int .i64))))) (v12) none),(9003,.row 2 (.int .i64) ((P3 (I2 (A4X (v3.length:Int))) k'.1 [] (u12,p12,q12)).1) [])]⟩) (fun k'=>ou.toNat - k'.1) ⟨0,by omega⟩ ?_ ?_
   ·
    refine oK ?_;simp (maxSteps:=2000000)only[go_sem];all_goals((repeat' refine And.intro ?_ ?_)<;>first|rfl|trivial|omega|(simp;done)|(congr 1;done))
   rintro⟨j,hj⟩ K38 hL38
   rcases hio:P3 (I2 (A4X (v3.length:Int))) j [] (u12,p12,q12) with⟨v15,u15,p15,q15⟩
   have hs15:=(Cost.it (P0 (A7N (v3.length:Int))) j []).at hs12 (by omega) hio
   have hl15:v15.length=j:=by have:=a8 (m:=A4X (v3.length:Int)) (k:=j) (s:=(u12,p12,q12)) (xs:=[]);rw[hio] at this;simpa using this
   refine oS fun _ hK39=>?_;refine oS fun _ hK40=>?_;refine oW A6 ?_;simp only[go_sem];repeat(with_reducible first|refine oA ?_|refine And.intro (by first|exact F5) ?_)
   refine hK40 _ ?_;refine oC rfl ?_ ?_
   ·
    intro c9;refine A2 ?_;simp only[go_sem];refine hK39 _ ?_;refine oS fun _ hK41=>?_;refine A3 ?_;rcases hr16:D8 3 (u15,p15,q15) with⟨v16,u16,p16,q16⟩
    obtain⟨hs16,hv16,hb16,hz16⟩:=H3 hs15 (by omega) hr16
    have hs16:srcOk _ (u16,p16,q16):=hs16
    have hb16:=hb16 (by omega)
    have hw1:IntKind.i64.wrap ((v3.length:Int) - 1)=(v3.length:Int) - 1:=H4 (by omega)
    have hw2:IntKind.i64.wrap ((v3.length:Int) - 1 - v16)=(v3.length:Int) - 1 - v16:=H4 (by omega)
    have hno:(P3 (I2 (A4X (v3.length:Int))) (j+1) [] (u12,p12,q12))=(v15++[r9 0 ((v3.length:Int) - 1 - v16)],u16,p16,q16):=(X0 hio).trans (by simp only[A4X,I2,bnd,hr16])
    refine oR A6
      [[],[0],[],[2],[],[4],[2,3,4,5],[2,3,4,5,6],[2,3,4,5,6,7],[0,1,2,3,4,5,6,7,8],[0,1,2,3,4,5,6,7,8,9],[0,1,2,3,4,5,6,7,8,9,10]]
      [[30,2596,2597,2598,2599,2600,2601,2602,2603,2604,2605,2606,2607,2608,2609,2610,2611,2644],[30,2596,2597,2598,2599,2600,2601,2602,2603,2604,2605,2606,2607,2608,2609,2610,2611,2644],[30,2596,2597,2598,2599,2600,2601,2602,2603,2604,2605,2606,2607,2608,2609,2610,2611],[30,2596,2597,2598,2599,2600,2601,2602,2603,2604,2605,2606,2607,2608,2609,2610,2611],[],[],[],[],[],[],[],[]]
      [[],[],[],[],[],[30,2596,2597,2598,2599,2600,2601,2602,2603,2604,2605,2606,2607,2608,2609,2610,2611],[],[],[30,2596,2597,2598,2599,2600,2601,2602,2603,2604,2605,2606,2607,2608,2609,2610,2611,2644],[],[],[]] (by kernel_rfl) (by kernel_rfl) (A7 (acc:=[]) ?_)
    simp (maxSteps:=2000000)only[hio,hr16,hw1,hw2,go_sem];repeat(with_reducible first|refine oD ?_|refine And.intro (by first|exact F5) ?_)
    refine hK41 _ ?_;refine oW A6 ?_;simp only[go_sem];repeat(with_reducible first|refine oA ?_|refine And.intro (by first|exact F5) ?_)
    refine hL38 ⟨j+1,by omega⟩ _ (oK ?_) ?_
    ·
     simp (maxSteps:=2000000)only[go_sem];all_goals(try simp only[hno])
     all_goals((repeat' refine And.intro ?_ ?_)<;>first|rfl|trivial|(rw[H4 (by omega)];omega)|(congr 1;done))
    ·
     first|(simp only[];omega)|omega|(simp;omega)
   intro c9;obtain rfl:j=ou.toNat:=by omega
   refine B6 ?_;simp only[go_sem];refine hK36 _ ?_;refine oS fun _ hK42=>?_;refine oW A6 ?_;simp only[go_sem];repeat(with_reducible first|refine oA ?_|refine And.intro (by first|exact F5) ?_)
   refine hK42 _ ?_;refine A0 ?_;simp only[hres,go_sem]
   first
    | exact oG
    | refine ⟨oG, ?_⟩
      simp only[A2e,bnd,hr1,hr2,hit,hid,hio];try((repeat' refine And.intro ?_ ?_)<;>first|rfl|trivial|(congr 1;done))
  refine oS fun _ hK43=>?_;refine oW A6 ?_;simp only[go_sem];repeat(with_reducible first|refine oA ?_|refine And.intro (by first|exact F5) ?_)
  refine hK43 _ ?_;refine oC rfl ?_ ?_
  ·
   intro c0;have hT:A86 (cd,pt,sd)=(v1,u1,p1,q1):=by rw[c0] at hr1;exact hr1
   refine oW A6 ?_;simp only[hT,go_sem];repeat(with_reducible first|refine oA ?_|refine And.intro (by first|exact F5) ?_)
   refine hK3 _ (oK ?_) ?_
   ·
    simp (maxSteps:=2000000)only[go_sem];all_goals(first|rfl|((repeat' refine And.intro ?_ ?_)<;>first|rfl|exact wk (by omega)|simp))
   ·
    trivial
  intro c0;obtain⟨rfl,rfl,rfl,rfl⟩:v1=[]∧u1=cd∧p1=pt∧q1=sd:=by rw[c0] at hr1;simp only[A2c,Prod.mk.injEq] at hr1;exact⟨hr1.1.symm,hr1.2.1.symm,hr1.2.2.1.symm,hr1.2.2.2.symm⟩
  refine A0j (A4K _ 276 1 9101 26 ((.row 2 (.int .i64))) (by decide)) ?_;simp (maxSteps:=2000000)only[go_sem];refine A2 ?_;simp only[go_sem];refine hK3 _ (oK ?_) ?_
  ·
   simp (maxSteps:=2000000)only[go_sem];all_goals(first|rfl|((repeat' refine And.intro ?_ ?_)<;>first|rfl|exact wk (by omega)|simp))
  ·
   trivial
def A3t:G4:=fun f=>if f=38 then some (.g n8) else A0p f
theorem C5:B5 Tryz.prog A3t:=A0M B1I (B0 Tryz.func38 rfl (by decide)) A6
attribute [go_sem] A3t n8
end Go.Proofs.YtenjbehedcegdaaGreat
