/-
  Texts of this claim, joined (part 32). No condition beyond those of the theorems.
-/
import Derived.Test.YtflobmmbhaofbaaGreatQ31
import Derived.Test.YtflobmmbhaofbaaGreatQ17
import Derived.Test.YtflobmmbhaofbaaGreatQ18
import Derived.Test.YtflobmmbhaofbaaGreatQ19
namespace Go.Proofs.YtflobmmbhaofbaaGreat
open Go.RowKit
set_option linter.unusedSimpArgs false
set_option linter.unusedVariables false
set_option maxRecDepth 100000
set_option maxHeartbeats 8000000
def A91:F8:=fun f=>match A2F f with
 | some k=>some k
 | none=>A7H f
theorem B47:B8 Tryz.prog A91:=T3 A77 A7g
attribute [go_sem] A91 T0
def A81:F8:=fun f=>match A91 f with
 | some k=>some k
 | none=>A0S f
theorem B3W:B8 Tryz.prog A81:=T3 B47 t2
attribute [go_sem] A81 T0
def A7z:F8:=fun f=>match A81 f with
 | some k=>some k
 | none=>A0D f
theorem H7:B8 Tryz.prog A7z:=T3 B3W C4
attribute [go_sem] A7z T0
def A1C:Con:=⟨[.ptr (.prod (.int .i64) (.prod (.row 26 (.row 2 (.int .i64))) (.prod (.row 56 (.prod (.int .i64) (.prod (.int .i64) (.prod (.int .i64) (.row 2 (.int .i64)))))) (.row 2 (.int .i64))))),.val ((.row 2 (.int .i64)))],[⟨(.prod (.int .i64) (.prod (.row 26 (.row 2 (.int .i64))) (.prod (.row 56 (.prod (.int .i64) (.prod (.int .i64) (.prod (.int .i64) (.row 2 (.int .i64)))))) (.row 2 (.int .i64))))),true⟩],fun x=>KeepOk x.1 x.2.1,fun x=>B4D x.1 x.2.1⟩
theorem B5t:D4 Tryz.prog 22 A1C:=by
  refine A7 Tryz.func22 rfl ?_
  have hres:Tryz.f22.results.toList=[.cell 4 28]:=rfl
  rintro⟨⟨(pi:Int),(ts:List (List Int)),(ns:List A4),(os:List Int)⟩,(kp:List Int),_⟩ hc hL
  simp only[A1C,go_sem] at hL
  simp only[A1C,St.init,St.initG,Tryz.ntmps22,go_sem] 
  have hK:KeepOk (pi,ts,ns,os) kp:=hc
  have hfp:B30 (pi,ts,ns,os):=hK.fits
  have hn24:ns.length≤24:=hK.n24
  have hk24:kp.length≤24:=hK.k24
  have hrg:J4 ns.length kp=true:=hK.rng
  have ho4:os.length≤4:=hK.o4
  have hoi:J4 ns.length os=true:=hK.outs
  have hfr:∀x∈ns,x.2.2.2.length≤23∧J4 ns.length x.2.2.2=true:=hK.frs
  have hby:(byL ns.length kp kp.length).length=ns.length:=B19 _ _ _
  have hmo:os.length≤1000∧J4 (byL ns.length kp kp.length).length os=true:=⟨by omega,by rw[hby];exact hoi⟩
  refine oS fun _ hK1=>?_;refine oW H7 ?_;simp only[go_sem];refine hK1 _ ?_;refine oS fun _ hK2=>?_;refine oW H7 ?_;simp (maxSteps:=2000000)only[go_sem];repeat(with_reducible first|refine oA ?_|refine And.intro (by first|exact⟨by omega,by omega⟩|omega) ?_)
  refine hK2 _ ?_;refine oS fun _ hK3=>?_;refine oS fun _ hK4=>?_;refine oW H7 ?_;simp only[go_sem];refine hK4 _ ?_;refine A5 ?_;refine B4 (ι:={ k:Nat // k≤kp.length }) (fun k=>⟨[.c (.pt [] ((.prod (.int .i64) (.prod (.row 26 (.row 2 (.int .i64))) (.prod (.row 56 (.prod (.int .i64) (.prod (.int .i64) (.prod (.int .i64) (.row 2 (.int .i64)))))) (.row 2 (.int .i64)))))) (pi,ts,ns,os) 0),.c (.rd [] 2 (.int .i64) (kp)),zz,zz,.c (.po 164 0),.c (.ow 9001),.c (.sc (.int .i64 (k.1))),zz,zz,zz,zz,zz,zz,zz,zz,zz,zz,zz,zz,zz,zz,zz,zz,zz,zz,zz,zz,zz,zz,zz,zz,zz,zz,zz,zz,zz,zz,zz,zz,zz,zz,zz,zz,zz,zz,zz,zz,zz,zz,zz,zz,zz,zz,zz,zz,zz,zz,zz,zz,zz,zz,zz,zz,zz,zz,zz,zz,zz],[(164,.box [.sc (.int .i64 (0)),.sc (.slice none 0 0),.sc (.slice none 0 0),.sc (.slice none 0 0)]),(9001,.row 2 (.int .i64) (byL ns.length kp k.1) [])]⟩) (fun k=>kp.length - k.1) ⟨0,by simp⟩ ?_ ?_
  ·
   refine oK ?_;simp (maxSteps:=2000000)only[go_sem];all_goals((repeat' refine And.intro ?_ ?_)<;>first|rfl|(congr 1;done)|simp)
  rintro⟨k,hk⟩ K5 hL5
  have hbk:(byL ns.length kp k).length=ns.length:=B19 _ _ _
  refine oS fun _ hK6=>?_;refine oS fun _ hK7=>?_;refine oW H7 ?_;simp only[go_sem];refine hK7 _ ?_;refine oC rfl ?_ ?_
  ·
   intro c0;obtain⟨hi1,hi2⟩:=I5 hrg (B9 (d:=(0:Int)) (show k < kp.length by omega))
   refine A3 ?_;simp only[go_sem];refine hK6 _ ?_;refine oS fun _ hK8=>?_;refine A5 ?_;refine oW H7 ?_;simp (maxSteps:=2000000)only[go_sem];repeat(with_reducible first|refine oA ?_|refine And.intro (by first|exact⟨by omega,by omega⟩|omega) ?_)
   refine hK8 _ ?_;refine oW H7 ?_;simp only[go_sem];refine hL5 ⟨k+1,by omega⟩ _ (oK ?_) ?_
   ·
    simp (maxSteps:=2000000)only[go_sem];all_goals((repeat' refine And.intro ?_ ?_)<;>first|rfl|exact wk (by omega)|(congr 1;done))
   ·
    first|(simp only[];omega)|omega|(simp;omega)
  intro c0;have hke:k=kp.length:=by omega
  refine C2 ?_;simp only[go_sem];refine hK3 _ ?_;refine oS fun _ hK9=>?_;refine oW H7 ?_;simp only[go_sem];repeat(with_reducible first|refine oA ?_|refine And.intro (by first|exact hfp) ?_)
  refine hK9 _ ?_;refine oS fun _ hK10=>?_;refine oW H7 ?_;simp only[List.nodup_nil,go_sem];repeat(with_reducible refine oA ?_)
  refine hK10 _ ?_;refine oS fun _ hK11=>?_;refine oS fun _ hK12=>?_;refine oW H7 ?_;simp only[go_sem];refine hK12 _ ?_;refine A5 ?_;refine B4 (ι:={ k:Nat // k≤kp.length }) (fun k=>⟨[.c (.pt [] ((.prod (.int .i64) (.prod (.row 26 (.row 2 (.int .i64))) (.prod (.row 56 (.prod (.int .i64) (.prod (.int .i64) (.prod (.int .i64) (.row 2 (.int .i64)))))) (.row 2 (.int .i64)))))) (pi,ts,ns,os) 0),.c (.rd [] 2 (.int .i64) (kp)),zz,zz,.c (.po 164 0),.c (.ow 9001),zz,.c (.po 212 0),.c (.sc (.int .i64 (k.1))),zz,zz,zz,zz,zz,zz,zz,zz,zz,zz,zz,zz,zz,zz,zz,zz,zz,zz,zz,zz,zz,zz,zz,zz,zz,zz,zz,zz,zz,zz,zz,zz,zz,zz,zz,zz,zz,zz,zz,zz,zz,zz,zz,zz,zz,zz,zz,zz,zz,zz,zz,zz,zz,zz,zz,zz,zz,zz,zz],[(164,.box [.sc (.int .i64 (0)),.sc (.slice none 0 0),.sc (.slice none 0 0),.sc (.slice none 0 0)]),(9001,.row 2 (.int .i64) ((byL ns.length kp kp.length)) []),(212,.box [.sc (.int .i64 (pi)),.ow 9011,.ow 9012,.ow 9013]),(9011,.tree 26 (.row 2 (.int .i64)) (ts) none),(9012,.tree 56 (.prod (.int .i64) (.prod (.int .i64) (.prod (.int .i64) (.row 2 (.int .i64))))) ((kp.take k.1).map (A9F ns (byL ns.length kp kp.length))) none),(9013,.row 2 (.int .i64) (os) [])]⟩) (fun k=>kp.length - k.1) ⟨0,by simp⟩ ?_ ?_
  ·
   refine oK ?_;simp (maxSteps:=2000000)only[go_sem];all_goals((repeat' refine And.intro ?_ ?_)<;>first|rfl|(rw[hke];done)|(congr 1;done)|simp)
  rintro⟨k,hk⟩ K13 hL13
  have hkl:((kp.take k).map (A9F ns (byL ns.length kp kp.length))).length≤24:=by rw[List.length_map,List.length_take];omega
  refine oS fun _ hK14=>?_;refine oS fun _ hK15=>?_;refine oW H7 ?_;simp only[go_sem];refine hK15 _ ?_;refine oC rfl ?_ ?_
  ·
   intro c1;obtain⟨hi1,hi2⟩:=I5 hrg (B9 (d:=(0:Int)) (show k < kp.length by omega))
   obtain⟨hx1,hx2⟩:=hfr _ (B9 (d:=((0,0,0,[]):A4)) (show (kp.getD k 0).toNat < ns.length by omega))
   have hmc:(ns.getD (kp.getD k 0).toNat ((0,0,0,[]):A4)).2.2.2.length≤1000∧J4 (byL ns.length kp kp.length).length (ns.getD (kp.getD k 0).toNat ((0,0,0,[]):A4)).2.2.2=true:=⟨Nat.le_trans hx1 (by decide),by rw[hby];exact hx2⟩
   have hml:(List.map (fun q=>(byL ns.length kp kp.length).getD (Int.toNat q) 0) (ns.getD (kp.getD k 0).toNat ((0,0,0,[]):A4)).2.2.2).length≤23:=by rw[List.length_map];exact hx1
   have hnx:(kp.take k).map (A9F ns (byL ns.length kp kp.length))++[((ns.getD (kp.getD k 0).toNat ((0,0,0,[]):A4)).1,(ns.getD (kp.getD k 0).toNat ((0,0,0,[]):A4)).2.1,(ns.getD (kp.getD k 0).toNat ((0,0,0,[]):A4)).2.2.1,List.map (fun q=>(byL ns.length kp kp.length).getD (Int.toNat q) 0) (ns.getD (kp.getD k 0).toNat ((0,0,0,[]):A4)).2.2.2)]=(kp.take (k+1)).map (A9F ns (byL ns.length kp kp.length)):=B8t (0:Int) (by omega)
   refine A3 ?_;simp only[go_sem];refine hK14 _ ?_;refine oS fun _ hK16=>?_;refine A5 ?_;refine oS fun _ hK17=>?_
   refine oR H7
     [[],[0],[0,1],[0,1,2],[],[],[4,5],[4,5,6],[0,1,2,3,4,5,6,7],[0,1,2,3,4,5,6,7,8],[],[0,1,2,3,4,5,6,7,8,9,10]]
     [[244],[244],[244],[244],[244],[244],[244],[244],[244],[244],[],[]]
     [[],[],[],[],[],[],[],[],[],[],[244],[]] (by kernel_rfl) (by kernel_rfl) (B7 (acc:=[]) ?_)
   simp (maxSteps:=2000000)only[go_sem];repeat(with_reducible first|refine oD ?_|refine And.intro (by first|exact⟨by omega,by omega⟩|omega) ?_)
   refine hK17 _ ?_;refine oS fun _ hK18=>?_;refine oW H7 ?_;simp (maxSteps:=2000000)only[go_sem];repeat(with_reducible first|refine oA ?_|refine And.intro (by first|exact hmc) ?_)
   refine hK18 _ ?_;refine oW H7 ?_;simp (maxSteps:=2000000)only[List.nodup_cons,List.nodup_nil,List.not_mem_nil,not_false_eq_true,go_sem];repeat(with_reducible first|refine oA ?_|refine And.intro (by first|omega) ?_)
   refine hK16 _ ?_;refine oW H7 ?_;simp only[go_sem];refine hL13 ⟨k+1,by omega⟩ _ (oK ?_) ?_
   ·
    simp (maxSteps:=2000000)only[go_sem];all_goals((repeat' refine And.intro ?_ ?_)<;>first|rfl|exact wk (by omega)|exact hnx|(congr 1;exact hnx)|(congr 1;done))
   ·
    first|(simp only[];omega)|omega|(simp;omega)
  intro c1;refine C2 ?_;simp only[go_sem];refine hK11 _ ?_;refine oS fun _ hK19=>?_;refine oW H7 ?_;simp (maxSteps:=2000000)only[go_sem];repeat(with_reducible first|refine oA ?_|refine And.intro (by first|exact hmo) ?_)
  refine hK19 _ ?_;refine oS fun _ hK20=>?_;refine oW H7 ?_;simp only[go_sem];repeat(with_reducible refine oA ?_)
  refine hK20 _ ?_;refine A2 ?_;simp only[hres,go_sem]
  first
   | exact oF
   | refine ⟨?_, oF⟩
     have hk3:k=kp.length:=by omega
     clear hK1 hK2 hK3 hK4 hL5 hK6 hK7 hK9 hK10 hK11 hK12 hL13 hK14 hK15 hK19 hK20;subst hk3;unfold B4D;rw[List.take_of_length_le (Nat.le_refl _)]
     rfl
def A3V:F8:=fun f=>if f=22 then some (.p A1C) else A7z f
theorem G0:B8 Tryz.prog A3V:=F9 B5t (B6 Tryz.func22 rfl (by decide)) H7
attribute [go_sem] A3V A1C
def o8:Con:=⟨[.val ((.prod (.int .i64) (.prod (.row 26 (.row 2 (.int .i64))) (.prod (.row 56 (.prod (.int .i64) (.prod (.int .i64) (.prod (.int .i64) (.row 2 (.int .i64)))))) (.row 2 (.int .i64))))))],[⟨(.prod (.int .i64) (.prod (.row 26 (.row 2 (.int .i64))) (.prod (.row 56 (.prod (.int .i64) (.prod (.int .i64) (.prod (.int .i64) (.row 2 (.int .i64)))))) (.row 2 (.int .i64))))),true⟩,⟨.int .i64,true⟩],fun _=>True,fun x=>A6F x.1⟩
theorem B2D:D4 Tryz.prog 7 o8:=by
  refine A7 Tryz.func7 rfl ?_
  have hres:Tryz.f7.results.toList=[.cell 2 28,.tmp 3]:=rfl
  rintro⟨⟨(pi:Int),(ts:List (List Int)),(ns:List A4),(os:List Int)⟩,_⟩ hc hL
  simp only[o8,go_sem] at hL
  simp only[o8,St.init,St.initG,Tryz.ntmps7,go_sem] 
  refine oS fun _ hK1=>?_;refine oW G0 ?_;simp only[go_sem];refine hK1 _ ?_;refine oS fun _ hK2=>?_;refine oS fun _ hK3=>?_;refine oW G0 ?_;simp only[go_sem];repeat(with_reducible refine oA ?_)
  refine hK3 _ ?_;refine oC rfl ?_ ?_
  ·
   intro c0;refine oS fun _ hK4=>?_;refine oW G0 ?_;simp only[go_sem];repeat(with_reducible refine oA ?_)
   refine hK4 _ ?_;refine A2 ?_;simp only[hres,go_sem];first|exact oF|(refine⟨?_,oF⟩;first|(rw[A8b c0];exact⟨rfl,rfl⟩)|(rw[A8b c0];done)|(rw[A8b c0];rfl))
  intro c0;have hF:=(A9 c0).1
  have hU:uOk ts ns:=L3 (p:=(pi,ts,ns,os)) hF
  have hsm:=Z8 (p:=(pi,ts,ns,os)) c0
  have hfp:=X9 hsm
  have hcl:(H1 ts ns).length=ns.length:=A1f
  have hn24:ns.length≤24:=(A8 hF).1
  have ho4:os.length≤4:=(A8 hF).2.1
  have hos:J4 ns.length os=true:=(A8 hF).2.2.2.2.2.1
  have hcD:B2N ts ns=((E1 (P5 (pi,ts,ns,os)) ns.length).2.length:Int):=by unfold B2N;rw[←A1R (p:=(pi,ts,ns,os))];exact A8x _ _
  have hDn:(E1 (P5 (pi,ts,ns,os)) ns.length).2.length≤ns.length:=Z7 _ _
  have hw0:IntKind.i64.wrap (((H1 ts ns).length:Int) - 1)=((H1 ts ns).length:Int) - 1 - ((0:Nat):Int):=by rw[G9 (by omega)];omega
  have hFL:(E4 (pi,ts,ns,os)).length=(E1 (P5 (pi,ts,ns,os)) ns.length).2.length:=R4 _
  have hmc:(H1 ts ns).length≤1000∧J4 (E4 (pi,ts,ns,os)).length (H1 ts ns)=true:=⟨by omega,C0x (p:=(pi,ts,ns,os))⟩
  have hbl:(H2 (E4 (pi,ts,ns,os)) (H1 ts ns)).length=ns.length:=by unfold H2;rw[List.length_map];exact hcl
  have hmo:os.length≤1000∧J4 (H2 (E4 (pi,ts,ns,os)) (H1 ts ns)).length os=true:=⟨by omega,by rw[hbl];exact hos⟩
  have hKm:=B1k (p:=(pi,ts,ns,os)) c0
  refine A3 ?_;simp only[go_sem];refine hK2 _ ?_;refine oS fun _ hK5=>?_;refine oW G0 ?_;simp (maxSteps:=2000000)only[go_sem];repeat(with_reducible first|refine oA ?_|refine And.intro (by first|exact hU) ?_)
  refine hK5 _ ?_;refine oS fun _ hK6=>?_;refine oW G0 ?_;simp only[hcD,go_sem];repeat(with_reducible first|refine oA ?_|refine And.intro (by first|exact⟨by omega,by omega⟩|omega) ?_)
  refine hK6 _ ?_;refine oS fun _ hK7=>?_;refine oS fun _ hK8=>?_;refine oW G0 ?_;simp only[hw0,go_sem];refine hK8 _ ?_;refine A5 ?_;refine B4 (ι:={ k:Nat // k≤(H1 ts ns).length }) (fun k=>⟨[zz,.c (.po 116 0),.c (.po 132 0),zz,.c (.ow 9004),zz,.c (.ow 9006),.c (.sc (.int .i64 ((((H1 ts ns).length:Int) - 1 - (k.1:Int))))),zz,zz,zz,zz,zz,zz,zz,zz,zz,zz,zz,zz,zz,zz,zz,zz,zz,zz,zz,zz,zz,zz,zz,zz,zz,zz,zz,zz,zz,zz,zz,zz,zz,zz,zz,zz,zz,zz,zz,zz,zz,zz,zz,zz,zz,zz,zz,zz,zz,zz,zz,zz,zz,zz,zz,zz,zz],[(116,.box [.sc (.int .i64 (pi)),.rd [] 26 ((.row 2 (.int .i64))) (ts),.rd [] 56 ((.prod (.int .i64) (.prod (.int .i64) (.prod (.int .i64) (.row 2 (.int .i64)))))) (ns),.rd [] 2 (.int .i64) (os)]),(132,.box [.sc (.int .i64 (0)),.sc (.slice none 0 0),.sc (.slice none 0 0),.sc (.slice none 0 0)]),(9004,.row 2 (.int .i64) ((H1 ts ns)) []),(9006,.row 2 (.int .i64) ((A33 (H1 ts ns) (E1 (P5 (pi,ts,ns,os)) ns.length).2.length k.1)) [])]⟩) (fun k=>(H1 ts ns).length - k.1) ⟨0,by simp⟩ ?_ ?_
  ·
   refine oK ?_;simp (maxSteps:=2000000)only[go_sem];all_goals((repeat' refine And.intro ?_ ?_)<;>first|rfl|(congr 1;done)|simp)
  rintro⟨k,hk⟩ K9 hL9
  have hkl:(A33 (H1 ts ns) (E1 (P5 (pi,ts,ns,os)) ns.length).2.length k).length=(E1 (P5 (pi,ts,ns,os)) ns.length).2.length:=A5j _ _ _
  refine oS fun _ hK10=>?_;refine oS fun _ hK11=>?_;refine oW G0 ?_;simp only[go_sem];refine hK11 _ ?_;refine oC rfl ?_ ?_
  ·
   intro c1;have hkn:k < (H1 ts ns).length:=by omega
   have hval:((H1 ts ns).length:Int) - 1 - (k:Int)=(((H1 ts ns).length - 1 - k:Nat):Int):=by omega
   obtain⟨c,hc1,hc2⟩:=B0m (p:=(pi,ts,ns,os)) (q:=(H1 ts ns).length - 1 - k) (by show _ < ns.length;omega)
   have hc1:(H1 ts ns).getD ((H1 ts ns).length - 1 - k) 0=(c:Int):=hc1
   have hc2:c < (E1 (P5 (pi,ts,ns,os)) ns.length).2.length:=hc2
   have hdn:IntKind.i64.wrap ((((H1 ts ns).length - 1 - k:Nat):Int) - 1)=((H1 ts ns).length:Int) - 1 - ((k+1:Nat):Int):=by rw[G9 (by omega)];omega
   have hci:0≤(H1 ts ns).getD ((H1 ts ns).length - 1 - k) 0∧(H1 ts ns).getD ((H1 ts ns).length - 1 - k) 0 < (E1 (P5 (pi,ts,ns,os)) ns.length).2.length:=by rw[hc1];omega
   refine A3 ?_;simp only[go_sem];refine hK10 _ ?_;refine oS fun _ hK12=>?_;refine A5 ?_;refine oW G0 ?_;simp (maxSteps:=2000000)only[hval,go_sem];repeat(with_reducible first|refine oA ?_|refine And.intro (by first|exact⟨by omega,by omega⟩|omega) ?_)
   refine hK12 _ ?_;refine oW G0 ?_;simp only[go_sem];refine hL9 ⟨k+1,by omega⟩ _ (oK ?_) ?_
   ·
    simp (maxSteps:=2000000)only[go_sem];all_goals((repeat' refine And.intro ?_ ?_)<;>first|rfl|exact hdn|(congr 1;done))
   ·
    first|(simp only[];omega)|omega|(simp;omega)
  intro c1;have hke:k=(H1 ts ns).length:=by omega
  have hfin:(A33 (H1 ts ns) (E1 (P5 (pi,ts,ns,os)) ns.length).2.length k)=(E4 (pi,ts,ns,os)):=by unfold E4;rw[hke,hcl]
  refine C2 ?_;simp only[go_sem];refine hK7 _ ?_;refine oS fun _ hK13=>?_;refine oW G0 ?_;simp only[hfin,go_sem];repeat(with_reducible first|refine oA ?_|refine And.intro (by first|exact hmc) ?_)
  refine hK13 _ ?_;refine oS fun _ hK14=>?_;refine oW G0 ?_;simp only[go_sem];repeat(with_reducible first|refine oA ?_|refine And.intro (by first|exact hfp) ?_)
  refine hK14 _ ?_;refine oS fun _ hK15=>?_;refine oS fun _ hK16=>?_;refine oW G0 ?_;simp only[go_sem];refine hK16 _ ?_;refine A5 ?_;refine B4 (ι:={ k:Nat // k≤ns.length }) (fun k=>⟨[zz,zz,.c (.po 132 0),zz,zz,zz,.c (.ow 9006),zz,.c (.ow 9008),.c (.po 244 0),.c (.sc (.int .i64 (k.1))),zz,zz,zz,zz,zz,zz,zz,zz,zz,zz,zz,zz,zz,zz,zz,zz,zz,zz,zz,zz,zz,zz,zz,zz,zz,zz,zz,zz,zz,zz,zz,zz,zz,zz,zz,zz,zz,zz,zz,zz,zz,zz,zz,zz,zz,zz,zz,zz,zz,zz,zz,zz,zz,zz],[(132,.box [.sc (.int .i64 (0)),.sc (.slice none 0 0),.sc (.slice none 0 0),.sc (.slice none 0 0)]),(9006,.row 2 (.int .i64) ((E4 (pi,ts,ns,os))) []),(9008,.row 2 (.int .i64) ((H2 (E4 (pi,ts,ns,os)) (H1 ts ns))) []),(244,.box [.sc (.int .i64 (pi)),.ow 9011,.ow 9012,.ow 9013]),(9011,.tree 26 (.row 2 (.int .i64)) (ts) none),(9012,.tree 56 (.prod (.int .i64) (.prod (.int .i64) (.prod (.int .i64) (.row 2 (.int .i64))))) (((ns.take k.1).map (A1v (H2 (E4 (pi,ts,ns,os)) (H1 ts ns)))++ns.drop k.1)) none),(9013,.row 2 (.int .i64) (os) [])]⟩) (fun k=>ns.length - k.1) ⟨0,by simp⟩ ?_ ?_
  ·
   refine oK ?_;simp (maxSteps:=2000000)only[go_sem];all_goals((repeat' refine And.intro ?_ ?_)<;>first|rfl|(simp;done)|(congr 1;done))
  rintro⟨k,hk⟩ K17 hL17
  have hml0:((ns.take k).map (A1v (H2 (E4 (pi,ts,ns,os)) (H1 ts ns)))).length+(ns.drop k).length=ns.length:=C0P hk
  have hml:((ns.take k).map (A1v (H2 (E4 (pi,ts,ns,os)) (H1 ts ns)))++ns.drop k).length=ns.length:=by rw[List.length_append];exact hml0
  refine oS fun _ hK18=>?_;refine oS fun _ hK19=>?_;refine oW G0 ?_;simp (maxSteps:=2000000)only[go_sem];repeat(with_reducible refine oA ?_)
  refine hK19 _ ?_;refine oC rfl ?_ ?_
  ·
   intro c2;have hma:((ns.take k).map (A1v (H2 (E4 (pi,ts,ns,os)) (H1 ts ns)))++ns.drop k).getD k ((0,0,0,[]):A4)=(ns.getD k ((0,0,0,[]):A4)):=C1w _ (by omega)
   obtain⟨hx1,hx2,hx3⟩:=(hU.2 _ (B9 (d:=((0,0,0,[]):A4)) (show k < ns.length by omega))).2
   have hmc2:(ns.getD k ((0,0,0,[]):A4)).2.2.2.length≤1000∧J4 (H2 (E4 (pi,ts,ns,os)) (H1 ts ns)).length (ns.getD k ((0,0,0,[]):A4)).2.2.2=true:=⟨Nat.le_trans hx1 (by decide),by rw[hbl];exact hx2⟩
   have hst:((ns.take k).map (A1v (H2 (E4 (pi,ts,ns,os)) (H1 ts ns)))++ns.drop k).set k (A1v (H2 (E4 (pi,ts,ns,os)) (H1 ts ns)) (ns.getD k ((0,0,0,[]):A4)))=(ns.take (k+1)).map (A1v (H2 (E4 (pi,ts,ns,os)) (H1 ts ns)))++ns.drop (k+1):=C0n _ (by omega)
   refine A3 ?_;simp only[go_sem];refine hK18 _ ?_;refine oS fun _ hK20=>?_;refine A5 ?_
   refine oR G0
     [[],[0],[],[],[3],[],[3,4,5],[3,4,5,6],[3,4,5,6,7],[],[3,4,5,6,7,8,9],[0,1,2,3,4,5,6,7,8,9,10],[0,1,2,3,4,5,6,7,8,9,10,11],[0,1,2,3,4,5,6,7,8,9,10,11,12]]
     [[980,981,982,983,984,985,986,987,988,989,990,991,992,993,994,995],[980,981,982,983,984,985,986,987,988,989,990,991,992,993,994,995],[980,981,982,983,984,985,986,987,988,989,990,991,992,993,994,995],[],[],[],[],[],[],[],[],[],[],[]]
     [[],[],[],[],[],[],[],[],[],[],[980,981,982,983,984,985,986,987,988,989,990,991,992,993,994,995],[],[],[]] (by kernel_rfl) (by kernel_rfl) (B7 (acc:=[]) ?_)
   simp (maxSteps:=2000000)only[List.nodup_cons,List.nodup_nil,List.not_mem_nil,not_false_eq_true,hma,go_sem];repeat(with_reducible first|refine oD ?_|refine And.intro (by first|exact hmc2|exact⟨by omega,by omega⟩|omega) ?_)
   refine hK20 _ ?_;refine oW G0 ?_;simp only[go_sem];refine hL17 ⟨k+1,by omega⟩ _ (oK ?_) ?_
   ·
    simp (maxSteps:=2000000)only[go_sem];all_goals((repeat' refine And.intro ?_ ?_)<;>first|rfl|exact wk (by omega)|exact hst|(congr 1;done))
   ·
    first|(simp only[];omega)|omega|(simp;omega)
  intro c2;have hke2:k=ns.length:=by omega
  have hmx:((ns.take k).map (A1v (H2 (E4 (pi,ts,ns,os)) (H1 ts ns)))++ns.drop k)=ns.map (A1v (H2 (E4 (pi,ts,ns,os)) (H1 ts ns))):=by rw[hke2,List.take_length,List.drop_length,List.append_nil]
  have hKm2:KeepOk (pi,ts,((ns.take k).map (A1v (H2 (E4 (pi,ts,ns,os)) (H1 ts ns)))++ns.drop k),H2 (H2 (E4 (pi,ts,ns,os)) (H1 ts ns)) os) (E4 (pi,ts,ns,os)):=by rw[hmx];exact hKm
  refine C2 ?_;simp only[go_sem];refine hK15 _ ?_;refine oS fun _ hK21=>?_;refine oW G0 ?_;simp (maxSteps:=2000000)only[go_sem];repeat(with_reducible first|refine oA ?_|refine And.intro (by first|exact hmo) ?_)
  refine hK21 _ ?_;refine oS fun _ hK22=>?_;refine oW G0 ?_;simp only[go_sem];repeat(with_reducible first|refine oA ?_|refine And.intro (by first|with_unfolding_all exact hKm2) ?_)
  refine hK22 _ ?_;refine A2 ?_;simp only[hres,go_sem]
  first
   | exact oF
   | refine ⟨?_, oF⟩
     rw[B3s c0,←B5E (p:=(pi,ts,ns,os)) c0,hmx]
     first|done|rfl
def A2x:F8:=fun f=>if f=7 then some (.p o8) else A3V f
theorem A8P:B8 Tryz.prog A2x:=F9 B2D (B6 Tryz.func7 rfl (by decide)) G0
attribute [go_sem] A2x o8
end Go.Proofs.YtflobmmbhaofbaaGreat
