/-
  Texts of this claim, joined (part 25). No condition beyond those of the theorems.
-/
import Derived.Test.YtgaogcnfijbahaaGreatQ06
import Derived.Test.YtgaogcnfijbahaaGreatQ04
import Derived.Test.YtgaogcnfijbahaaGreatQ23
import Derived.Test.YtgaogcnfijbahaaGreatQ24
import Derived.Test.YtgaogcnfijbahaaGreatQ13
namespace Go.Proofs.YtgaogcnfijbahaaGreat
open Go.RowKit
set_option linter.unusedSimpArgs false
set_option linter.unusedVariables false
set_option maxRecDepth 100000
set_option maxHeartbeats 4000000
def A3H:Con:=⟨[.val ((.row 2 (.int .i64)))],[⟨(.row 2 (.int .i64)),true⟩],fun x=>x.1.length≤1099511627776,fun x=>x.1⟩
theorem C0F:C9 Tryz.prog 72 A3H:=by
  refine A4 Tryz.func72 rfl ?_
  have hres:Tryz.f72.results.toList=[.tmp 2]:=rfl
  rintro⟨(xs:List Int),_⟩ hc hL
  simp only[A3H,go_sem] at hL
  simp only[A3H,St.init,St.initG,Tryz.ntmps72,go_sem] 
  have hx:xs.length≤1099511627776:=hc
  refine oS fun _ hK1=>?_;refine oW D3 ?_;simp only[go_sem];refine hK1 _ ?_;refine oS fun _ hK2=>?_;refine oW D3 ?_;simp only[go_sem];repeat(with_reducible refine oA ?_)
  refine hK2 _ ?_;refine A0 ?_;simp only[hres,go_sem];first|exact oF|exact oFr
def A8g:E4:=fun f=>if f=72 then some (.p A3H) else e9 f
theorem J7:B4 Tryz.prog A8g:=E3 C0F (B0 Tryz.func72 rfl (by decide)) D3
attribute [go_sem] A8g A3H
def A3s:Con:=⟨[.ptr (.prod (.int .i64) (.prod (.row 26 (.row 2 (.int .i64))) (.prod (.row 95 (.prod (.int .i64) (.prod (.int .i64) (.prod (.int .i64) (.row 2 (.int .i64)))))) (.row 2 (.int .i64)))))],[⟨(.prod (.int .i64) (.prod (.row 26 (.row 2 (.int .i64))) (.prod (.row 95 (.prod (.int .i64) (.prod (.int .i64) (.prod (.int .i64) (.row 2 (.int .i64)))))) (.row 2 (.int .i64))))),true⟩],fun x=>B1x x.1,fun x=>x.1⟩
theorem C1E:C9 Tryz.prog 69 A3s:=by
  refine A4 Tryz.func69 rfl ?_
  have hres:Tryz.f69.results.toList=[.cell 2 28]:=rfl
  rintro⟨⟨(pi:Int),(ts:List (List Int)),(ns:List A6),(os:List Int)⟩,_⟩ hc hL
  simp only[A3s,go_sem] at hL
  simp only[A3s,St.init,St.initG,Tryz.ntmps69,go_sem] 
  obtain⟨⟨hx1,hx2⟩,⟨hy1,hy2⟩,hz⟩:=(show B1x (pi,ts,ns,os) from hc)
  simp only at hx1 hx2 hy1 hy2 hz
  refine oS fun _ hK1=>?_;refine oW J7 ?_;simp only[go_sem];refine hK1 _ ?_;refine oS fun _ hK2=>?_
  refine oR J7
    [[],[0],[0,1],[0,1,2],[],[4],[4,5],[4,5,6],[4,5,6,7],[0,1,2,3,4,5,6,7,8],[],[0,1,2,3,4,5,6,7,8,9,10]]
    [[148,340,341,342,343,344,345,346,347,348,349,350,351,352,353,354,355],[148,340,341,342,343,344,345,346,347,348,349,350,351,352,353,354,355],[148,340,341,342,343,344,345,346,347,348,349,350,351,352,353,354,355],[148,340,341,342,343,344,345,346,347,348,349,350,351,352,353,354,355],[148],[148],[148],[148],[148],[148],[340,341,342,343,344,345,346,347,348,349,350,351,352,353,354,355],[]]
    [[],[],[],[],[],[],[],[],[340,341,342,343,344,345,346,347,348,349,350,351,352,353,354,355],[],[148],[]] (by kernel_rfl) (by kernel_rfl) (A9 (acc:=[]) ?_)
  simp (maxSteps:=2000000)only[go_sem];repeat(with_reducible first|refine oD ?_|refine And.intro (by first|assumption) ?_)
  refine hK2 _ ?_;refine oS fun _ hK3=>?_;refine oS fun _ hK4=>?_;refine oW J7 ?_;simp only[go_sem];refine hK4 _ ?_;refine A1 ?_;refine H8 (P9 _ 148 1 9001 26 ((.row 2 (.int .i64))) (by decide)) ?_;simp (maxSteps:=2000000)only[go_sem];refine A7 (ι:={ k:Nat // k≤ts.length }) (fun k=>⟨[.c (.pt [] ((.prod (.int .i64) (.prod (.row 26 (.row 2 (.int .i64))) (.prod (.row 95 (.prod (.int .i64) (.prod (.int .i64) (.prod (.int .i64) (.row 2 (.int .i64)))))) (.row 2 (.int .i64)))))) (pi,ts,ns,os) 0),zz,.c (.po 132 0),.c (.po 148 0),.c (.sc (.int .i64 (k.1))),zz,zz,zz,zz,zz,zz,zz,zz,zz,zz,zz,zz,zz,zz,zz,zz,zz,zz,zz,zz,zz,zz,zz,zz,zz,zz,zz,zz,zz,zz,zz,zz,zz,zz,zz,zz,zz,zz,zz,zz,zz,zz,zz,zz,zz,zz,zz,zz,zz,zz,zz,zz,zz,zz,zz,zz,zz,zz,zz,zz,zz],[(132,.box [.sc (.int .i64 (0)),.sc (.slice none 0 0),.sc (.slice none 0 0),.sc (.slice none 0 0)]),(148,.box [.sc (.int .i64 (pi)),.ow 9001,.sc (.slice none 0 0),.ow 9003]),(9001,.tree 26 (.row 2 (.int .i64)) (ts.take k.1) none),(9003,.row 2 (.int .i64) (os) [])]⟩) (fun k=>ts.length - k.1) ⟨0,by simp⟩ ?_ ?_
  ·
   refine oK ?_;simp (maxSteps:=2000000)only[go_sem];all_goals(first|rfl|((repeat' refine And.intro ?_ ?_)<;>first|rfl|simp))
  rintro⟨k,hk⟩ K5 hL5
  have htk:(List.take k ts).length≤1099511627776:=by rw[List.length_take];omega
  have hyk:k < ts.length→(ts.getD k []).length≤1099511627776:=fun h=>hx2 _ (D6 h)
  refine oS fun _ hK6=>?_;refine oS fun _ hK7=>?_;refine oW J7 ?_;simp (maxSteps:=2000000)only[go_sem];repeat(with_reducible refine oA ?_)
  refine hK7 _ ?_;refine oC rfl ?_ ?_
  ·
   intro c0;refine A2 ?_;simp only[go_sem];refine hK6 _ ?_;refine oS fun _ hK8=>?_;refine A1 ?_
   refine oR J7
     [[],[0],[],[2],[2,3],[2,3,4],[],[2,3,4,5,6],[2,3,4,5,6,7],[2,3,4,5,6,7,8],[2,3,4,5,6,7,8,9],[0,1,2,3,4,5,6,7,8,9,10],[0,1,2,3,4,5,6,7,8,9,10,11],[0,1,2,3,4,5,6,7,8,9,10,11,12]]
     [[660,661,662,663,664,665,666,667,668,669,670,671,672,673,674,675,676],[660,661,662,663,664,665,666,667,668,669,670,671,672,673,674,675,676],[],[],[],[],[],[],[],[],[],[],[],[]]
     [[],[],[],[],[],[],[],[],[],[660,661,662,663,664,665,666,667,668,669,670,671,672,673,674,675],[660,661,662,663,664,665,666,667,668,669,670,671,672,673,674,675,676],[],[],[]] (by kernel_rfl) (by kernel_rfl) (A9 (acc:=[]) ?_)
   simp (maxSteps:=2000000)only[List.nodup_cons,List.nodup_nil,List.not_mem_nil,not_false_eq_true,go_sem];repeat(with_reducible first|refine oD ?_|refine And.intro (by first|exact hyk (by omega)) ?_)
   refine hK8 _ ?_;refine oW J7 ?_;simp only[go_sem];refine hL5 ⟨k+1,by omega⟩ _ (oK ?_) ?_
   ·
    simp (maxSteps:=2000000)only[go_sem];all_goals((repeat' refine And.intro ?_ ?_)<;>first|rfl|exact wk (by omega)|(congr 1;exact(E7 (xs:=ts) (k:=k) (d:=[]) (by omega)).symm)|exact(E7 (xs:=ts) (k:=k) (d:=[]) (by omega)).symm|(congr 1;done))
   ·
    first|(simp only[];omega)|omega|(simp;omega)
  intro c0;refine B6 ?_;simp only[go_sem];refine hK3 _ ?_;refine oS fun _ hK9=>?_;refine oS fun _ hK10=>?_;refine oW J7 ?_;simp only[go_sem];refine hK10 _ ?_;refine A1 ?_;refine H8 (P9 _ 148 2 9002 95 ((.prod (.int .i64) (.prod (.int .i64) (.prod (.int .i64) (.row 2 (.int .i64)))))) (by decide)) ?_;simp (maxSteps:=2000000)only[go_sem];refine A7 (ι:={ k:Nat // k≤ns.length }) (fun k=>⟨[.c (.pt [] ((.prod (.int .i64) (.prod (.row 26 (.row 2 (.int .i64))) (.prod (.row 95 (.prod (.int .i64) (.prod (.int .i64) (.prod (.int .i64) (.row 2 (.int .i64)))))) (.row 2 (.int .i64)))))) (pi,ts,ns,os) 0),zz,.c (.po 132 0),.c (.po 148 0),zz,.c (.sc (.int .i64 (k.1))),zz,zz,zz,zz,zz,zz,zz,zz,zz,zz,zz,zz,zz,zz,zz,zz,zz,zz,zz,zz,zz,zz,zz,zz,zz,zz,zz,zz,zz,zz,zz,zz,zz,zz,zz,zz,zz,zz,zz,zz,zz,zz,zz,zz,zz,zz,zz,zz,zz,zz,zz,zz,zz,zz,zz,zz,zz,zz,zz,zz],[(132,.box [.sc (.int .i64 (0)),.sc (.slice none 0 0),.sc (.slice none 0 0),.sc (.slice none 0 0)]),(148,.box [.sc (.int .i64 (pi)),.ow 9001,.ow 9002,.ow 9003]),(9001,.tree 26 (.row 2 (.int .i64)) (ts) none),(9002,.tree 95 (.prod (.int .i64) (.prod (.int .i64) (.prod (.int .i64) (.row 2 (.int .i64))))) (ns.take k.1) none),(9003,.row 2 (.int .i64) (os) [])]⟩) (fun k=>ns.length - k.1) ⟨0,by simp⟩ ?_ ?_
  ·
   refine oK ?_;simp (maxSteps:=2000000)only[go_sem];all_goals((repeat' refine And.intro ?_ ?_)<;>first|rfl|(congr 1;exact List.take_of_length_le (by omega))|exact List.take_of_length_le (by omega)|(congr 1;done))
  rintro⟨k,hk⟩ K11 hL11
  have htk:(List.take k ns).length≤1099511627776:=by rw[List.length_take];omega
  have hyk:k < ns.length→(ns.getD k ((0,0,0,[]):A6)).2.2.2.length≤1099511627776:=fun h=>hy2 _ (D6 h)
  refine oS fun _ hK12=>?_;refine oS fun _ hK13=>?_;refine oW J7 ?_;simp (maxSteps:=2000000)only[go_sem];repeat(with_reducible refine oA ?_)
  refine hK13 _ ?_;refine oC rfl ?_ ?_
  ·
   intro c1;refine A2 ?_;simp only[go_sem];refine hK12 _ ?_;refine oS fun _ hK14=>?_;refine A1 ?_;refine oS fun _ hK15=>?_;refine oW J7 ?_;simp (maxSteps:=2000000)only[go_sem];repeat(with_reducible refine oA ?_)
   refine hK15 _ ?_;refine oS fun _ hK16=>?_;refine oW J7 ?_;simp (maxSteps:=2000000)only[go_sem];repeat(with_reducible first|refine oA ?_|refine And.intro (by first|exact hyk (by omega)) ?_)
   refine hK16 _ ?_;refine oW J7 ?_;simp (maxSteps:=2000000)only[List.nodup_cons,List.nodup_nil,List.not_mem_nil,not_false_eq_true,go_sem];repeat(with_reducible refine oA ?_)
   refine hK14 _ ?_;refine oW J7 ?_;simp only[go_sem];refine hL11 ⟨k+1,by omega⟩ _ (oK ?_) ?_
   ·
    simp (maxSteps:=2000000)only[go_sem];all_goals((repeat' refine And.intro ?_ ?_)<;>first|rfl|exact wk (by omega)|(congr 1;exact(E7 (xs:=ns) (k:=k) (d:=((0,0,0,[]):A6)) (by omega)).symm)|exact(E7 (xs:=ns) (k:=k) (d:=((0,0,0,[]):A6)) (by omega)).symm|(congr 1;done))
   ·
    first|(simp only[];omega)|omega|(simp;omega)
  intro c1;refine B6 ?_;simp only[go_sem];refine hK9 _ ?_;refine oS fun _ hK17=>?_;refine oW J7 ?_;simp only[go_sem];repeat(with_reducible refine oA ?_)
  refine hK17 _ ?_;refine A0 ?_;simp only[hres,go_sem];first|exact oF|(refine⟨?_,oF⟩;exact congrArg (fun z=>((pi,ts,z,os):A3)) (List.take_of_length_le (by omega)))
def A3f:E4:=fun f=>if f=69 then some (.p A3s) else A8g f
theorem A3b:B4 Tryz.prog A3f:=E3 C1E (B0 Tryz.func69 rfl (by decide)) J7
attribute [go_sem] A3f A3s
set_option maxRecDepth 100000
set_option maxHeartbeats 8000000
def A8t:E4:=fun f=>match A2P f with
 | some k=>some k
 | none=>A4L f
theorem B5K:B4 Tryz.prog A8t:=N2 A8B A2m
attribute [go_sem] A8t T0
def B09:E4:=fun f=>match A8t f with
 | some k=>some k
 | none=>A3f f
theorem B4X:B4 Tryz.prog B09:=N2 B5K A3b
attribute [go_sem] B09 T0
def A9Z:E4:=fun f=>match B09 f with
 | some k=>some k
 | none=>Z3 f
theorem H4:B4 Tryz.prog A9Z:=N2 B4X A5
attribute [go_sem] A9Z T0
def A22:Con:=⟨[.ptr (.prod (.int .i64) (.prod (.row 26 (.row 2 (.int .i64))) (.prod (.row 95 (.prod (.int .i64) (.prod (.int .i64) (.prod (.int .i64) (.row 2 (.int .i64)))))) (.row 2 (.int .i64))))),.val ((.row 2 (.int .i64)))],[⟨(.prod (.int .i64) (.prod (.row 26 (.row 2 (.int .i64))) (.prod (.row 95 (.prod (.int .i64) (.prod (.int .i64) (.prod (.int .i64) (.row 2 (.int .i64)))))) (.row 2 (.int .i64))))),true⟩],fun x=>KeepOk x.1 x.2.1,fun x=>A4v x.1 x.2.1⟩
theorem B6s:C9 Tryz.prog 35 A22:=by
  refine A4 Tryz.func35 rfl ?_
  have hres:Tryz.f35.results.toList=[.cell 4 28]:=rfl
  rintro⟨⟨(pi:Int),(ts:List (List Int)),(ns:List A6),(os:List Int)⟩,(kp:List Int),_⟩ hc hL
  simp only[A22,go_sem] at hL
  simp only[A22,St.init,St.initG,Tryz.ntmps35,go_sem] 
  have hK:KeepOk (pi,ts,ns,os) kp:=hc
  have hfp:B1x (pi,ts,ns,os):=hK.fits
  have hn24:ns.length≤24:=hK.n24
  have hk24:kp.length≤24:=hK.k24
  have hrg:N9 ns.length kp=true:=hK.rng
  have ho4:os.length≤4:=hK.o4
  have hoi:N9 ns.length os=true:=hK.outs
  have hfr:∀x∈ns,x.2.2.2.length≤23∧N9 ns.length x.2.2.2=true:=hK.frs
  have hby:(byL ns.length kp kp.length).length=ns.length:=A6I _ _ _
  have hmo:os.length≤1000∧N9 (byL ns.length kp kp.length).length os=true:=⟨by omega,by rw[hby];exact hoi⟩
  refine oS fun _ hK1=>?_;refine oW H4 ?_;simp only[go_sem];refine hK1 _ ?_;refine oS fun _ hK2=>?_;refine oW H4 ?_;simp (maxSteps:=2000000)only[go_sem];repeat(with_reducible first|refine oA ?_|refine And.intro (by first|exact⟨by omega,by omega⟩|omega) ?_)
  refine hK2 _ ?_;refine oS fun _ hK3=>?_;refine oS fun _ hK4=>?_;refine oW H4 ?_;simp only[go_sem];refine hK4 _ ?_;refine A1 ?_;refine A7 (ι:={ k:Nat // k≤kp.length }) (fun k=>⟨[.c (.pt [] ((.prod (.int .i64) (.prod (.row 26 (.row 2 (.int .i64))) (.prod (.row 95 (.prod (.int .i64) (.prod (.int .i64) (.prod (.int .i64) (.row 2 (.int .i64)))))) (.row 2 (.int .i64)))))) (pi,ts,ns,os) 0),.c (.rd [] 2 (.int .i64) (kp)),zz,zz,.c (.po 164 0),.c (.ow 9001),.c (.sc (.int .i64 (k.1))),zz,zz,zz,zz,zz,zz,zz,zz,zz,zz,zz,zz,zz,zz,zz,zz,zz,zz,zz,zz,zz,zz,zz,zz,zz,zz,zz,zz,zz,zz,zz,zz,zz,zz,zz,zz,zz,zz,zz,zz,zz,zz,zz,zz,zz,zz,zz,zz,zz,zz,zz,zz,zz,zz,zz,zz,zz,zz,zz,zz,zz],[(164,.box [.sc (.int .i64 (0)),.sc (.slice none 0 0),.sc (.slice none 0 0),.sc (.slice none 0 0)]),(9001,.row 2 (.int .i64) (byL ns.length kp k.1) [])]⟩) (fun k=>kp.length - k.1) ⟨0,by simp⟩ ?_ ?_
  ·
   refine oK ?_;simp (maxSteps:=2000000)only[go_sem];all_goals((repeat' refine And.intro ?_ ?_)<;>first|rfl|(congr 1;done)|simp)
  rintro⟨k,hk⟩ K5 hL5
  have hbk:(byL ns.length kp k).length=ns.length:=A6I _ _ _
  refine oS fun _ hK6=>?_;refine oS fun _ hK7=>?_;refine oW H4 ?_;simp only[go_sem];refine hK7 _ ?_;refine oC rfl ?_ ?_
  ·
   intro c0;obtain⟨hi1,hi2⟩:=U5 hrg (D6 (d:=(0:Int)) (show k < kp.length by omega))
   refine A2 ?_;simp only[go_sem];refine hK6 _ ?_;refine oS fun _ hK8=>?_;refine A1 ?_;refine oW H4 ?_;simp (maxSteps:=2000000)only[go_sem];repeat(with_reducible first|refine oA ?_|refine And.intro (by first|exact⟨by omega,by omega⟩|omega) ?_)
   refine hK8 _ ?_;refine oW H4 ?_;simp only[go_sem];refine hL5 ⟨k+1,by omega⟩ _ (oK ?_) ?_
   ·
    simp (maxSteps:=2000000)only[go_sem];all_goals((repeat' refine And.intro ?_ ?_)<;>first|rfl|exact wk (by omega)|(congr 1;done))
   ·
    first|(simp only[];omega)|omega|(simp;omega)
  intro c0;have hke:k=kp.length:=by omega
  refine B6 ?_;simp only[go_sem];refine hK3 _ ?_;refine oS fun _ hK9=>?_;refine oW H4 ?_;simp only[go_sem];repeat(with_reducible first|refine oA ?_|refine And.intro (by first|exact hfp) ?_)
  refine hK9 _ ?_;refine oS fun _ hK10=>?_;refine oW H4 ?_;simp only[List.nodup_nil,go_sem];repeat(with_reducible refine oA ?_)
  refine hK10 _ ?_;refine oS fun _ hK11=>?_;refine oS fun _ hK12=>?_;refine oW H4 ?_;simp only[go_sem];refine hK12 _ ?_;refine A1 ?_;refine A7 (ι:={ k:Nat // k≤kp.length }) (fun k=>⟨[.c (.pt [] ((.prod (.int .i64) (.prod (.row 26 (.row 2 (.int .i64))) (.prod (.row 95 (.prod (.int .i64) (.prod (.int .i64) (.prod (.int .i64) (.row 2 (.int .i64)))))) (.row 2 (.int .i64)))))) (pi,ts,ns,os) 0),.c (.rd [] 2 (.int .i64) (kp)),zz,zz,.c (.po 164 0),.c (.ow 9001),zz,.c (.po 212 0),.c (.sc (.int .i64 (k.1))),zz,zz,zz,zz,zz,zz,zz,zz,zz,zz,zz,zz,zz,zz,zz,zz,zz,zz,zz,zz,zz,zz,zz,zz,zz,zz,zz,zz,zz,zz,zz,zz,zz,zz,zz,zz,zz,zz,zz,zz,zz,zz,zz,zz,zz,zz,zz,zz,zz,zz,zz,zz,zz,zz,zz,zz,zz,zz,zz],[(164,.box [.sc (.int .i64 (0)),.sc (.slice none 0 0),.sc (.slice none 0 0),.sc (.slice none 0 0)]),(9001,.row 2 (.int .i64) ((byL ns.length kp kp.length)) []),(212,.box [.sc (.int .i64 (pi)),.ow 9011,.ow 9012,.ow 9013]),(9011,.tree 26 (.row 2 (.int .i64)) (ts) none),(9012,.tree 95 (.prod (.int .i64) (.prod (.int .i64) (.prod (.int .i64) (.row 2 (.int .i64))))) ((kp.take k.1).map (A3Y ns (byL ns.length kp kp.length))) none),(9013,.row 2 (.int .i64) (os) [])]⟩) (fun k=>kp.length - k.1) ⟨0,by simp⟩ ?_ ?_
  ·
   refine oK ?_;simp (maxSteps:=2000000)only[go_sem];all_goals((repeat' refine And.intro ?_ ?_)<;>first|rfl|(rw[hke];done)|(congr 1;done)|simp)
  rintro⟨k,hk⟩ K13 hL13
  have hkl:((kp.take k).map (A3Y ns (byL ns.length kp kp.length))).length≤24:=by rw[List.length_map,List.length_take];omega
  refine oS fun _ hK14=>?_;refine oS fun _ hK15=>?_;refine oW H4 ?_;simp only[go_sem];refine hK15 _ ?_;refine oC rfl ?_ ?_
  ·
   intro c1;obtain⟨hi1,hi2⟩:=U5 hrg (D6 (d:=(0:Int)) (show k < kp.length by omega))
   obtain⟨hx1,hx2⟩:=hfr _ (D6 (d:=((0,0,0,[]):A6)) (show (kp.getD k 0).toNat < ns.length by omega))
   have hmc:(ns.getD (kp.getD k 0).toNat ((0,0,0,[]):A6)).2.2.2.length≤1000∧N9 (byL ns.length kp kp.length).length (ns.getD (kp.getD k 0).toNat ((0,0,0,[]):A6)).2.2.2=true:=⟨Nat.le_trans hx1 (by decide),by rw[hby];exact hx2⟩
   have hml:(List.map (fun q=>(byL ns.length kp kp.length).getD (Int.toNat q) 0) (ns.getD (kp.getD k 0).toNat ((0,0,0,[]):A6)).2.2.2).length≤23:=by rw[List.length_map];exact hx1
   have hnx:(kp.take k).map (A3Y ns (byL ns.length kp kp.length))++[((ns.getD (kp.getD k 0).toNat ((0,0,0,[]):A6)).1,(ns.getD (kp.getD k 0).toNat ((0,0,0,[]):A6)).2.1,(ns.getD (kp.getD k 0).toNat ((0,0,0,[]):A6)).2.2.1,List.map (fun q=>(byL ns.length kp kp.length).getD (Int.toNat q) 0) (ns.getD (kp.getD k 0).toNat ((0,0,0,[]):A6)).2.2.2)]=(kp.take (k+1)).map (A3Y ns (byL ns.length kp kp.length)):=C1U (0:Int) (by omega)
   refine A2 ?_;simp only[go_sem];refine hK14 _ ?_;refine oS fun _ hK16=>?_;refine A1 ?_;refine oS fun _ hK17=>?_
   refine oR H4
     [[],[0],[0,1],[0,1,2],[],[],[4,5],[4,5,6],[0,1,2,3,4,5,6,7],[0,1,2,3,4,5,6,7,8],[],[0,1,2,3,4,5,6,7,8,9,10]]
     [[244],[244],[244],[244],[244],[244],[244],[244],[244],[244],[],[]]
     [[],[],[],[],[],[],[],[],[],[],[244],[]] (by kernel_rfl) (by kernel_rfl) (A9 (acc:=[]) ?_)
   simp (maxSteps:=2000000)only[go_sem];repeat(with_reducible first|refine oD ?_|refine And.intro (by first|exact⟨by omega,by omega⟩|omega) ?_)
   refine hK17 _ ?_;refine oS fun _ hK18=>?_;refine oW H4 ?_;simp (maxSteps:=2000000)only[go_sem];repeat(with_reducible first|refine oA ?_|refine And.intro (by first|exact hmc) ?_)
   refine hK18 _ ?_;refine oW H4 ?_;simp (maxSteps:=2000000)only[List.nodup_cons,List.nodup_nil,List.not_mem_nil,not_false_eq_true,go_sem];repeat(with_reducible first|refine oA ?_|refine And.intro (by first|omega) ?_)
   refine hK16 _ ?_;refine oW H4 ?_;simp only[go_sem];refine hL13 ⟨k+1,by omega⟩ _ (oK ?_) ?_
   ·
    simp (maxSteps:=2000000)only[go_sem];all_goals((repeat' refine And.intro ?_ ?_)<;>first|rfl|exact wk (by omega)|exact hnx|(congr 1;exact hnx)|(congr 1;done))
   ·
    first|(simp only[];omega)|omega|(simp;omega)
  intro c1;refine B6 ?_;simp only[go_sem];refine hK11 _ ?_;refine oS fun _ hK19=>?_;refine oW H4 ?_;simp (maxSteps:=2000000)only[go_sem];repeat(with_reducible first|refine oA ?_|refine And.intro (by first|exact hmo) ?_)
  refine hK19 _ ?_;refine oS fun _ hK20=>?_;refine oW H4 ?_;simp only[go_sem];repeat(with_reducible refine oA ?_)
  refine hK20 _ ?_;refine A0 ?_;simp only[hres,go_sem]
  first
   | exact oF
   | refine ⟨?_, oF⟩
     have hk3:k=kp.length:=by omega
     clear hK1 hK2 hK3 hK4 hL5 hK6 hK7 hK9 hK10 hK11 hK12 hL13 hK14 hK15 hK19 hK20;subst hk3;unfold A4v;rw[List.take_of_length_le (Nat.le_refl _)]
     rfl
def A4O:E4:=fun f=>if f=35 then some (.p A22) else A9Z f
theorem B2y:B4 Tryz.prog A4O:=E3 B6s (B0 Tryz.func35 rfl (by decide)) H4
attribute [go_sem] A4O A22
def B5D:E4:=A4O
attribute [go_sem] B5D
end Go.Proofs.YtgaogcnfijbahaaGreat
