/-
  Texts of this claim, joined (part 30). No condition beyond those of the theorems.
-/
import Derived.Test.YtflobmmbhaofbaaGreatQ29
import Derived.Test.YtflobmmbhaofbaaGreatQ25
namespace Go.Proofs.YtflobmmbhaofbaaGreat
open Go.RowKit
set_option linter.unusedSimpArgs false
set_option linter.unusedVariables false
set_option maxRecDepth 100000
set_option maxHeartbeats 4000000
def A0i:Con:=⟨[.ptr (.prod (.int .i64) (.prod (.row 26 (.row 2 (.int .i64))) (.prod (.row 56 (.prod (.int .i64) (.prod (.int .i64) (.prod (.int .i64) (.row 2 (.int .i64)))))) (.row 2 (.int .i64))))),.val (.int .i64)],[⟨.int .i64,true⟩],fun x=>C5 x.1=true∧(0≤x.2.1∧x.2.1 < x.1.2.2.1.length)∧A55 x.1 x.2.1=true,fun x=>B9z x.1 x.2.1⟩
theorem B3F:D4 Tryz.prog 100 A0i:=by
  refine A7 Tryz.func100 rfl ?_
  have hres:Tryz.f100.results.toList=[.tmp 4]:=rfl
  rintro⟨⟨(pi:Int),(ts:List (List Int)),(ns:List A4),(os:List Int)⟩,(nd:Int),_⟩ hc hL
  simp only[A0i,go_sem] at hL
  simp only[A0i,St.init,St.initG,Tryz.ntmps100,go_sem] 
  obtain⟨hF,⟨h0,h1⟩,hcb⟩:=(show C5 (pi,ts,ns,os)=true∧(0≤nd∧nd < ns.length)∧A55 (pi,ts,ns,os) nd=true from hc)
  rcases hx:E8 (pi,ts,ns,os) nd with⟨kd,ka,kb,fr⟩
  have hx':ns.getD nd.toNat ((0,0,0,[]):A4)=(kd,ka,kb,fr):=hx
  have hfr:=fun f h=>O0 (p:=(pi,ts,ns,os)) hF (i:=nd) ⟨h0,h1⟩ (f:=f) h
  have hab:=r6 (p:=(pi,ts,ns,os)) hF (i:=nd) ⟨h0,h1⟩
  have hl3:=((L3 hF).2 (E8 (pi,ts,ns,os) nd) (B9 (show nd.toNat < ns.length by omega))).2.1
  rw[hx] at hfr hab hl3
  simp only at hfr hab hl3
  obtain⟨hA,h6,h2,h1',h3⟩:=hab;have hf0:0 < fr.length→0≤fr.getD 0 0∧fr.getD 0 0 < ns.length:=fun h=>hfr _ (B9 h)
  have hf1:1 < fr.length→0≤fr.getD 1 0∧fr.getD 1 0 < ns.length:=fun h=>hfr _ (B9 h)
  have hst:=(B4R hF ⟨h0,h1⟩ hcb).c
  rw[hx] at hst;refine oS fun _ hK1=>?_;refine oW O8 ?_;simp only[go_sem];refine hK1 _ ?_;refine oS fun _ hK2=>?_;refine oW O8 ?_;simp (maxSteps:=2000000)only[hx',go_sem];repeat(with_reducible first|refine oA ?_|refine And.intro (by first|exact⟨h0,h1⟩|omega) ?_)
  refine hK2 _ ?_;refine oS fun _ hK3=>?_;refine oW O8 ?_;simp only[go_sem];repeat(with_reducible refine oA ?_)
  refine hK3 _ ?_;refine oS fun _ hK4=>?_;refine oS fun _ hK5=>?_;refine oW O8 ?_;simp only[go_sem];refine hK5 _ ?_;refine A5 ?_;refine B4 (ι:={ k:Nat // k≤fr.length }) (fun k=>⟨[.c (.pt [] ((.prod (.int .i64) (.prod (.row 26 (.row 2 (.int .i64))) (.prod (.row 56 (.prod (.int .i64) (.prod (.int .i64) (.prod (.int .i64) (.row 2 (.int .i64)))))) (.row 2 (.int .i64)))))) (pi,ts,ns,os) 0),zz,zz,zz,zz,.c (.pt [] ((.prod (.int .i64) (.prod (.int .i64) (.prod (.int .i64) (.row 2 (.int .i64)))))) (kd,ka,kb,fr) 0),.c (.ow 9006),.c (.sc (.int .i64 (k.1))),zz,zz,zz,zz,zz,zz,zz,zz,zz,zz,zz,zz,zz,zz,zz,zz,zz,zz,zz,zz,zz,zz,zz,zz,zz,zz,zz,zz,zz,zz,zz,zz,zz,zz,zz,zz,zz,zz,zz,zz],[(9006,.row 2 (.int .i64) (((fr.take k.1).map fun f=>(E8 (pi,ts,ns,os) f).2.1)) [])]⟩) (fun k=>fr.length - k.1) ⟨0,by simp⟩ ?_ ?_
  ·
   refine oK ?_;simp (maxSteps:=2000000)only[go_sem];all_goals((repeat' refine And.intro ?_ ?_)<;>first|rfl|(congr 1;done)|(simp;done))
  rintro⟨k,hk⟩ K6 hL6
  have hkk:((fr.take k).map fun f=>(E8 (pi,ts,ns,os) f).2.1).length≤3:=by rw[List.length_map,List.length_take];omega
  refine oS fun _ hK7=>?_;refine oS fun _ hK8=>?_;refine oW O8 ?_;simp (maxSteps:=2000000)only[go_sem];repeat(with_reducible refine oA ?_)
  refine hK8 _ ?_;refine oC rfl ?_ ?_
  ·
   intro c0;have hkl:k < fr.length:=by have h:(k:Int) < fr.length:=c0;omega
   have hfk:=hfr _ (B9 (d:=(0:Int)) hkl)
   rcases hy:E8 (pi,ts,ns,os) (fr.getD k 0) with⟨yk,ya,yb,yf⟩
   have hy':ns.getD (fr.getD k 0).toNat ((0,0,0,[]):A4)=(yk,ya,yb,yf):=hy
   have hnx:((fr.take k).map fun f=>(E8 (pi,ts,ns,os) f).2.1)++[ya]=((fr.take (k+1)).map fun f=>(E8 (pi,ts,ns,os) f).2.1):=by rw[G7 (d:=(0:Int)) hkl,List.map_append,List.map_cons,List.map_nil,hy]
   refine A3 ?_;simp only[go_sem];refine hK7 _ ?_;refine oS fun _ hK9=>?_;refine A5 ?_
   refine oR O8
     [[],[],[1],[1,2],[1,2,3],[],[5],[5,6],[5,6,7],[],[5,6,7,8,9],[5,6,7,8,9,10],[1,2,3,4,5,6,7,8,9,10,11],[1,2,3,4,5,6,7,8,9,10,11,12],[1,2,3,4,5,6,7,8,9,10,11,12,13],[1,2,3,4,5,6,7,8,9,10,11,12,13,14],[0,1,2,3,4,5,6,7,8,9,10,11,12,13,14,15],[0,1,2,3,4,5,6,7,8,9,10,11,12,13,14,15,16]]
     [[724],[],[],[],[],[],[],[],[],[],[],[],[],[],[],[],[],[]]
     [[],[],[],[],[],[],[],[],[],[],[],[],[],[],[],[724],[],[]] (by kernel_rfl) (by kernel_rfl) (B7 (acc:=[]) ?_)
   simp (maxSteps:=2000000)only[hy',go_sem];repeat(with_reducible first|refine oD ?_|refine And.intro (by first|omega|exact hfk|exact⟨hfk.1,hfk.2⟩) ?_)
   refine hK9 _ ?_;refine oW O8 ?_;simp only[go_sem];refine hL6 ⟨k+1,by omega⟩ _ (oK ?_) ?_
   ·
    simp (maxSteps:=2000000)only[go_sem];all_goals((repeat' refine And.intro ?_ ?_)<;>first|rfl|exact wk (by omega)|exact hnx|(congr 1;exact hnx)|(congr 1;done))
   ·
    first|(simp only[];omega)|omega|(simp;omega)
  intro c0;have hal:fr.take k=fr:=List.take_of_length_le (by first|(have h:¬(k:Int) < fr.length:=c0;omega)|(have h:(fr.length:Int)≤k:=c0;omega))
  refine C2 ?_;simp only[go_sem];refine hK4 _ ?_;refine oS fun _ hK10=>?_;refine oW O8 ?_;simp (maxSteps:=2000000)only[hal,go_sem];repeat(with_reducible first|refine oA ?_|refine And.intro (by first|exact hst) ?_)
  refine hK10 _ ?_;refine A2 ?_;simp only[hres,go_sem]
  first
   | exact oF
   | refine ⟨?_, oF⟩
     unfold B9z;rw[hx];first|done|rfl
def A3u:F8:=fun f=>if f=100 then some (.p A0i) else A5P f
theorem A9T:B8 Tryz.prog A3u:=F9 B3F (B6 Tryz.func100 rfl (by decide)) O8
attribute [go_sem] A3u A0i
end Go.Proofs.YtflobmmbhaofbaaGreat
