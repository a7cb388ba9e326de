/-
  Texts of this claim, joined (part 33). No condition beyond those of the theorems.
-/
import Derived.Test.YtgaogcnfijbahaaGreatQ32
import Derived.Test.YtgaogcnfijbahaaGreatQ21
import Derived.Test.YtgaogcnfijbahaaGreatQ06
import Derived.Test.YtgaogcnfijbahaaGreatQ04
namespace Go.Proofs.YtgaogcnfijbahaaGreat
open Go.RowKit
set_option linter.unusedSimpArgs false
set_option linter.unusedVariables false
set_option maxRecDepth 100000
set_option maxHeartbeats 1000000
def u0:Con:=⟨[.val ((.prod (.int .i64) (.prod (.row 26 (.row 2 (.int .i64))) (.prod (.row 95 (.prod (.int .i64) (.prod (.int .i64) (.prod (.int .i64) (.row 2 (.int .i64)))))) (.row 2 (.int .i64))))))],[⟨.bool,true⟩],fun _=>True,fun x=>B9 x.1 && W7 x.1⟩
theorem B3X:C9 Tryz.prog 21 u0:=by
  refine A4 Tryz.func21 rfl ?_
  have hres:Tryz.f21.results.toList=[.tmp 2]:=rfl
  rintro⟨⟨(pi:Int),(ts:List (List Int)),(ns:List A6),(os:List Int)⟩,_⟩ hc hL
  simp only[u0,go_sem] at hL
  simp only[u0,St.init,St.initG,Tryz.ntmps21,go_sem] 
  refine oS fun _ hK1=>?_;refine oW Y6 ?_;simp only[go_sem];repeat(with_reducible first|refine oA ?_|refine And.intro (by first|exact hP|exact hTF) ?_)
  refine hK1 _ ?_;refine oS fun _ hK2=>?_;refine oS fun _ hK3=>?_;refine oW Y6 ?_;simp only[go_sem];repeat(with_reducible first|refine oA ?_|refine And.intro (by first|exact hP|exact hTF) ?_)
  refine hK3 _ ?_;refine oC rfl ?_ ?_
  ·
   intro c0;refine oS fun _ hK4=>?_;refine oW Y6 ?_;simp only[go_sem];repeat(with_reducible first|refine oA ?_|refine And.intro (by first|exact hP|exact hTF) ?_)
   refine hK4 _ ?_;refine A0 ?_;simp only[hres,go_sem]
   first
    | exact oF
    | refine ⟨?_, oF⟩
      have hn:B9 (pi,ts,ns,os)=false:=by assumption
      rw[hn];first|done|rfl
  intro c0;have hP:B9 (pi,ts,ns,os)=true:=by assumption
  have hTF:=(B8 (T5 hP)).1
  have hTl:=A9A (pi,ts,ns,os)
  refine A2 ?_;simp only[go_sem];refine hK2 _ ?_;refine oS fun _ hK5=>?_;refine oW Y6 ?_;simp only[go_sem];repeat(with_reducible first|refine oA ?_|refine And.intro (by first|exact hP|exact hTF) ?_)
  refine hK5 _ ?_;refine oS fun _ hK6=>?_;refine oW Y6 ?_;simp only[go_sem];repeat(with_reducible first|refine oA ?_|refine And.intro (by first|exact hP|exact hTF) ?_)
  refine hK6 _ ?_;refine A0 ?_;simp only[hres,go_sem]
  first
   | exact oF
   | refine ⟨?_, oF⟩
     rw[hP,←hTl];first|done|rfl
def A3S:E4:=fun f=>if f=21 then some (.p u0) else A4l f
theorem K0:B4 Tryz.prog A3S:=E3 B3X (B0 Tryz.func21 rfl (by decide)) Y6
attribute [go_sem] A3S u0
def d6:Con:=⟨[.val ((.prod (.int .i64) (.prod (.row 26 (.row 2 (.int .i64))) (.prod (.row 95 (.prod (.int .i64) (.prod (.int .i64) (.prod (.int .i64) (.row 2 (.int .i64)))))) (.row 2 (.int .i64)))))),.val ((.prod (.int .i64) (.prod (.row 26 (.row 2 (.int .i64))) (.prod (.row 95 (.prod (.int .i64) (.prod (.int .i64) (.prod (.int .i64) (.row 2 (.int .i64)))))) (.row 2 (.int .i64))))))],[⟨.bool,true⟩,⟨.int .i64,true⟩],fun x=>¬O8 [x.1,x.2.1]=0,fun x=>(false,O8 [x.1,x.2.1])⟩
theorem B0q:C9 Tryz.prog 7 d6:=by
  refine A4 Tryz.func7 rfl ?_
  have hres:Tryz.f7.results.toList=[.tmp 4,.tmp 5]:=rfl
  rintro⟨⟨(pi:Int),(ts:List (List Int)),(ns:List A6),(os:List Int)⟩,⟨(pi2:Int),(ts2:List (List Int)),(ns2:List A6),(os2:List Int)⟩,_⟩ hc hL
  simp only[d6,go_sem] at hL
  simp only[d6,St.init,St.initG,Tryz.ntmps7,go_sem] 
  have hne:¬O8 [(pi,ts,ns,os),(pi2,ts2,ns2,os2)]=0:=hc
  rcases hlr:A7p (pi,ts,ns,os) with⟨⟨ni,la,lb,lc,ld⟩,cd⟩
  obtain⟨hcd,hX0⟩:=C3g hlr
  rcases hlr2:A7p (pi2,ts2,ns2,os2) with⟨⟨ni2,la2,lb2,lc2,ld2⟩,cd2⟩
  obtain⟨hcd2,hY0⟩:=C3g hlr2
  refine oS fun _ hK1=>?_;refine oW K0 ?_;simp only[go_sem];refine hK1 _ ?_;refine oS fun _ hK2=>?_;refine oS fun _ hK3=>?_;refine oW K0 ?_;simp (maxSteps:=2000000)only[List.nodup_cons,List.nodup_nil,List.not_mem_nil,not_false_eq_true,go_sem];repeat' (with_reducible first|refine oA ?_|refine oT (fun g1=>?_) (fun g1=>?_)|refine oE (fun g1=>?_) (fun g1=>?_))
  all_goals
   refine hK3 _ ?_;refine E2 rfl ?_ ?_
   ·
    intro c0;try simp only[zA,zB,zC,zD,zE,zF,zG,zH,zI] at c0
    all_goals
     refine oS fun _ hK4=>?_;refine oW K0 ?_;simp only[go_sem];refine hK4 _ ?_;refine A0 ?_;simp only[hres,go_sem]
     first
      | exact oF
      | refine ⟨?_, oF⟩
        have hkf:(B9 (pi,ts,ns,os) && B9 (pi2,ts2,ns2,os2))=false:=by clear hK1 hK2 hK3 hK4;simp_all
        have hcc:=C8f hkf
        first|(rw[hcc];exact⟨rfl,rfl⟩)|(rw[hcc];done)
   ·
    intro c0;try simp only[zA,zB,zC,zD,zE,zF,zG,zH,zI] at c0
    all_goals
     have hk1:(B9 (pi,ts,ns,os) && B9 (pi2,ts2,ns2,os2))=true:=by clear hK1 hK2 hK3;simp_all
     refine A2 ?_;simp only[go_sem];refine hK2 _ ?_;refine oS fun _ hK5=>?_;refine oS fun _ hK6=>?_;refine oW K0 ?_;simp (maxSteps:=2000000)only[List.nodup_cons,List.nodup_nil,List.not_mem_nil,not_false_eq_true,go_sem];repeat' (with_reducible first|refine oA ?_|refine And.intro (by first|omega) ?_|refine oT (fun g3=>?_) (fun g3=>?_)|refine oE (fun g3=>?_) (fun g3=>?_))
     all_goals
      refine hK6 _ ?_;refine E2 rfl ?_ ?_
      ·
       intro c1;try simp only[zA,zB,zC,zD,zE,zF,zG,zH,zI] at c1
       all_goals
        refine oS fun _ hK7=>?_;refine oW K0 ?_;simp only[go_sem];refine hK7 _ ?_;refine A0 ?_;simp only[hres,go_sem]
        first
         | exact oF
         | refine ⟨?_, oF⟩
           have hkf:(W7 (pi,ts,ns,os) && W7 (pi2,ts2,ns2,os2) && decide (pi=pi2) && decide (os.length=os2.length))=false:=by clear hK1 hK2 hK3 hK5 hK6 hK7;simp_all<;>(intros;omega)
           have hcc:=C95 (p:=(pi,ts,ns,os)) (q:=(pi2,ts2,ns2,os2)) hk1 hkf
           first|(rw[hcc];exact⟨rfl,rfl⟩)|(rw[hcc];done)
      ·
       intro c1;try simp only[zA,zB,zC,zD,zE,zF,zG,zH,zI] at c1
       all_goals
        have hk6:(W7 (pi,ts,ns,os) && W7 (pi2,ts2,ns2,os2) && decide (pi=pi2) && decide (os.length=os2.length))=true:=by clear hK1 hK2 hK3 hK5 hK6;simp_all<;>omega
        have htw:=C1c (p:=(pi,ts,ns,os)) (q:=(pi2,ts2,ns2,os2)) hk1 hk6
        refine A2 ?_;simp only[go_sem];refine hK5 _ ?_;refine oS fun _ hK8=>?_;refine oW K0 ?_;simp (maxSteps:=2000000)only[List.nodup_cons,List.nodup_nil,List.not_mem_nil,not_false_eq_true,hlr,go_sem];repeat(with_reducible refine oA ?_)
        refine hK8 _ ?_;refine oS fun _ hK9=>?_;refine oW K0 ?_;simp (maxSteps:=2000000)only[List.nodup_cons,List.nodup_nil,List.not_mem_nil,not_false_eq_true,hlr2,go_sem];repeat(with_reducible refine oA ?_)
        refine hK9 _ ?_;refine oS fun _ hK10=>?_;refine oS fun _ hK11=>?_;refine oW K0 ?_;simp (maxSteps:=2000000)only[go_sem];repeat' (with_reducible first|refine oA ?_|refine oT (fun g7=>?_) (fun g7=>?_)|refine oE (fun g7=>?_) (fun g7=>?_))
        all_goals
         refine hK11 _ ?_;refine E2 rfl ?_ ?_
         ·
          intro c2;try simp only[zA,zB,zC,zD,zE,zF,zG,zH,zI] at c2
          all_goals
           refine oS fun _ hK12=>?_;refine oW K0 ?_;simp only[go_sem];refine hK12 _ ?_;refine A0 ?_;simp only[hres,go_sem]
           first
            | exact oF
            | refine ⟨?_, oF⟩
              have hcc:=C8D htw (by rw[←hcd,←hcd2];first|omega|(clear hK1 hK2 hK3 hK5 hK6 hK8 hK9 hK10 hK11 hK12;simp_all))
              first|(rw[hcc];exact⟨rfl,rfl⟩)|(rw[hcc];done)
         ·
          intro c2;try simp only[zA,zB,zC,zD,zE,zF,zG,zH,zI] at c2
          all_goals
           have hl1:J1 (pi,ts,ns,os)=0:=by first|omega|(clear hK1 hK2 hK3 hK5 hK6 hK8 hK9 hK10 hK11;simp_all)
           have hl2:J1 (pi2,ts2,ns2,os2)=0:=by first|omega|(clear hK1 hK2 hK3 hK5 hK6 hK8 hK9 hK10 hK11;simp_all)
           exact absurd (C87 htw hl1 hl2) hne
def A2w:E4:=fun f=>if f=7 then some (.p d6) else A3S f
theorem A8K:B4 Tryz.prog A2w:=E3 B0q (B0 Tryz.func7 rfl (by decide)) K0
attribute [go_sem] A2w d6
set_option maxRecDepth 100000
set_option maxHeartbeats 1000000
def A5y:Con:=⟨[.val ((.row 2 (.int .i64)))],[⟨(.row 2 (.int .i64)),true⟩],fun x=>x.1.length≤1099511627776,fun x=>x.1⟩
theorem B4y:C9 Tryz.prog 93 A5y:=by
  refine A4 Tryz.func93 rfl ?_
  have hres:Tryz.f93.results.toList=[.tmp 2]:=rfl
  rintro⟨(xs:List Int),_⟩ hc hL
  simp only[A5y,go_sem] at hL
  simp only[A5y,St.init,St.initG,Tryz.ntmps93,go_sem] 
  have hx:xs.length≤1099511627776:=hc
  refine oS fun _ hK1=>?_;refine oW D3 ?_;simp only[go_sem];refine hK1 _ ?_;refine oS fun _ hK2=>?_;refine oW D3 ?_;simp only[go_sem];repeat(with_reducible refine oA ?_)
  refine hK2 _ ?_;refine A0 ?_;simp only[hres,go_sem];first|exact oF|exact oFr
def B2u:E4:=fun f=>if f=93 then some (.p A5y) else e9 f
theorem V7:B4 Tryz.prog B2u:=E3 B4y (B0 Tryz.func93 rfl (by decide)) D3
attribute [go_sem] B2u A5y
def A41:Con:=⟨[.val ((.row 26 (.row 2 (.int .i64))))],[⟨(.row 26 (.row 2 (.int .i64))),true⟩],fun x=>B04 x.1,fun x=>x.1⟩
theorem B9k:C9 Tryz.prog 130 A41:=by
  refine A4 Tryz.func130 rfl ?_
  have hres:Tryz.f130.results.toList=[.tmp 2]:=rfl
  rintro⟨(xs:List (List Int)),_⟩ hc hL
  simp only[A41,go_sem] at hL
  simp only[A41,St.init,St.initG,Tryz.ntmps130,go_sem] 
  obtain⟨hx,hy⟩:=(show B04 xs from hc)
  refine oS fun _ hK1=>?_;refine oW V7 ?_;simp only[go_sem];refine hK1 _ ?_;refine oS fun _ hK2=>?_;refine oW V7 ?_;simp only[List.nodup_nil,go_sem];repeat(with_reducible refine oA ?_)
  refine hK2 _ ?_;refine oS fun _ hK3=>?_;refine oS fun _ hK4=>?_;refine oW V7 ?_;simp only[go_sem];refine hK4 _ ?_;refine A1 ?_;refine A7 (ι:={ k:Nat // k≤xs.length }) (fun k=>⟨[zz,zz,zz,.c (.ow 9001),zz,zz,zz,.c (.rd [] 26 (.row 2 (.int .i64)) (xs)),.c (.sc (.int .i64 (xs.length))),.c (.sc (.int .i64 (k.1))),zz,zz,zz,zz,zz,zz,zz,zz,zz,zz],[(9001,.tree 26 (.row 2 (.int .i64)) (xs.take k.1) none)]⟩) (fun k=>xs.length - k.1) ⟨0,by simp⟩ ?_ ?_
  ·
   refine oK ?_;simp (maxSteps:=2000000)only[go_sem];all_goals(first|rfl|((repeat' refine And.intro ?_ ?_)<;>first|rfl|simp))
  rintro⟨k,hk⟩ K5 hL5
  have htk:(List.take k xs).length≤1099511627776:=by rw[List.length_take];omega
  have hyk:k < xs.length→(xs.getD k []).length≤1099511627776:=fun h=>hy _ (D6 h)
  refine oS fun _ hK6=>?_;refine oW V7 ?_;simp only[go_sem];refine hK6 _ ?_;refine oS fun _ hK7=>?_;refine oC rfl ?_ ?_
  ·
   intro c0;refine A2 ?_;simp only[go_sem];refine hK7 _ ?_;refine oS fun _ hK8=>?_;refine A1 ?_;refine oS fun _ hK9=>?_;refine oW V7 ?_;simp only[go_sem];repeat(with_reducible refine oA ?_)
   refine hK9 _ ?_;refine oW V7 ?_;simp (maxSteps:=2000000)only[List.nodup_cons,List.nodup_nil,List.not_mem_nil,not_false_eq_true,go_sem];repeat(with_reducible first|refine oA ?_|refine And.intro (by first|omega) ?_)
   refine hK8 _ ?_;refine oW V7 ?_;simp only[go_sem];refine hL5 ⟨k+1,by omega⟩ _ (oK ?_) ?_
   ·
    simp (maxSteps:=2000000)only[go_sem];all_goals first|rfl|exact wk (by omega)|exact⟨wk (by omega),by rw[E7 (xs:=xs) (k:=k) (d:=[]) (by omega)]⟩
   ·
    first|(simp only[];omega)|omega|(simp;omega)
  intro c0;refine B6 ?_;simp only[go_sem];refine hK3 _ ?_;refine oS fun _ hK10=>?_;refine oW V7 ?_;simp only[go_sem];refine hK10 _ ?_;refine A0 ?_;simp only[hres,go_sem];first|exact oF|(refine⟨?_,oF⟩;exact List.take_of_length_le (by omega))
def A1w:E4:=fun f=>if f=130 then some (.p A41) else B2u f
theorem A3B:B4 Tryz.prog A1w:=E3 B9k (B0 Tryz.func130 rfl (by decide)) V7
attribute [go_sem] A1w A41
def B16:E4:=A1w
attribute [go_sem] B16
end Go.Proofs.YtgaogcnfijbahaaGreat
