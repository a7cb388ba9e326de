/-
  Texts of this claim, joined (part 40). No condition beyond those of the theorems.
-/
import Derived.Test.YtflobmmbhaofbaaGreatQ22
namespace Go.Proofs.YtflobmmbhaofbaaGreat
open Go.RowKit
set_option linter.unusedSimpArgs false
set_option linter.unusedVariables false
set_option maxRecDepth 100000
set_option maxHeartbeats 8000000
def A6Y:GCon where
  ps:=[.val (.int .i64),.val (.int .i64),.po 0,.po 1]
  os:=[.box [.ow 2],.box [.rd ((.prod (.row 26 (.row 2 (.int .i64))) (.prod (.row 56 (.prod (.int .i64) (.prod (.int .i64) (.prod (.int .i64) (.row 2 (.int .i64)))))) (.row 2 (.int .i64)))))],.row 2 (.int .i64)]
  c:=fun x=>uOk x.2.2.1.1.1 x.2.2.1.1.2.1∧x.2.2.2.1.length=x.2.2.1.1.2.1.length∧0≤x.1.1∧x.1.1 < x.2.2.1.1.2.1.length∧0≤x.1.2.1∧x.1.2.1 < x.2.2.1.1.2.1.length
  r:=fun x=>.c (.sc (.bool (C3 (Q6 x.2.2.1.1.1 x.2.2.1.1.2.1 x.2.2.2.1) (Int.toNat x.1.1) (Int.toNat x.1.2.1))))
  o:=fun x=>[(30,.box [.ow 32]),(31,.box [.rd [] 26 ((.row 2 (.int .i64))) (x.2.2.1.1.1),.rd [] 56 ((.prod (.int .i64) (.prod (.int .i64) (.prod (.int .i64) (.row 2 (.int .i64)))))) (x.2.2.1.1.2.1),.rd [] 2 (.int .i64) (x.2.2.1.1.2.2)]),(32,.row 2 (.int .i64) (x.2.2.2.1) [])]
  ok:=by
    rintro⟨⟨(i:Int),(k:Int),_⟩,⟨_,⟨⟨(ts:List (List Int)),(ns:List A4),(os:List Int)⟩,_⟩,(cl:List Int),_⟩⟩
    exact⟨rfl,rfl,by decide⟩
theorem C2b:W3 Tryz.prog 39 A6Y:=by
  refine D8 Tryz.func39 rfl ?_
  have hres:Tryz.f39.results.toList=[.tmp 6]:=rfl
  rintro⟨⟨(i:Int),(k:Int),_⟩,⟨_,⟨⟨(ts:List (List Int)),(ns:List A4),(os:List Int)⟩,_⟩,(cl:List Int),_⟩⟩ hc hL hO
  simp only[A6Y,go_sem] at hL
  simp only[A6Y,go_sem] at hO
  simp only[A6Y,St.init,St.initG,Tryz.ntmps39,go_sem] 
  obtain⟨hU,hcl,hi0,hi1,hk0,hk1⟩:=(show uOk ts ns∧cl.length=ns.length∧0≤i∧i < ns.length∧0≤k∧k < ns.length from hc)
  obtain⟨hul,hun⟩:=hU;have hx1:i.toNat < ns.length:=by omega
  have hx2:k.toNat < ns.length:=by omega
  obtain⟨ht1,hn1⟩:=hun _ (B9 (d:=((0,0,0,[]):A4)) hx1)
  obtain⟨ht2,hn2⟩:=hun _ (B9 (d:=((0,0,0,[]):A4)) hx2)
  have ht1:T5 ts ((ns.getD i.toNat ((0,0,0,[]):A4)).1,(ns.getD i.toNat ((0,0,0,[]):A4)).2.1,(ns.getD i.toNat ((0,0,0,[]):A4)).2.2.1,(ns.getD i.toNat ((0,0,0,[]):A4)).2.2.2):=ht1
  have ht2:T5 ts ((ns.getD k.toNat ((0,0,0,[]):A4)).1,(ns.getD k.toNat ((0,0,0,[]):A4)).2.1,(ns.getD k.toNat ((0,0,0,[]):A4)).2.2.1,(ns.getD k.toNat ((0,0,0,[]):A4)).2.2.2):=ht2
  have hn1:j9 ns.length ((ns.getD i.toNat ((0,0,0,[]):A4)).1,(ns.getD i.toNat ((0,0,0,[]):A4)).2.1,(ns.getD i.toNat ((0,0,0,[]):A4)).2.2.1,(ns.getD i.toNat ((0,0,0,[]):A4)).2.2.2):=hn1
  have hn2:j9 ns.length ((ns.getD k.toNat ((0,0,0,[]):A4)).1,(ns.getD k.toNat ((0,0,0,[]):A4)).2.1,(ns.getD k.toNat ((0,0,0,[]):A4)).2.2.1,(ns.getD k.toNat ((0,0,0,[]):A4)).2.2.2):=hn2
  rw[←hcl] at hn1 hn2
  refine oS fun _ hK1=>?_;refine oW D3 ?_;simp only[go_sem];repeat(with_reducible first|refine oA ?_|refine And.intro (by first|exact⟨hi0,hi1⟩|exact⟨hk0,hk1⟩|exact⟨hi0,by rw[hcl];exact hi1⟩|exact⟨hk0,by rw[hcl];exact hk1⟩|exact⟨ht1,ht2,hn1,hn2⟩|exact⟨by omega,by omega⟩) ?_)
  refine hK1 _ ?_;refine oS fun _ hK2=>?_
  refine oR D3
    [[],[],[0,1],[0,1,2],[],[],[4,5],[4,5,6],[0,1,2,3,4,5,6,7],[0,1,2,3,4,5,6,7,8],[0,1,2,3,4,5,6,7,8,9],[0,1,2,3,4,5,6,7,8,9],[0,1,2,3,4,5,6,7,8,9,11],[0,1,2,3,4,5,6,7,8,9],[0,1,2,3,4,5,6,7,8,9,11,12,13],[0,1,2,3,4,5,6,7,8,9,11,12,13,14],[0,1,2,3,4,5,6,7,8,9],[0,1,2,3,4,5,6,7,8,9,16],[0,1,2,3,4,5,6,7,8,9],[0,1,2,3,4,5,6,7,8,9,16,17,18],[0,1,2,3,4,5,6,7,8,9,16,17,18,19],[0,1,2,3,4,5,6,7,8,9],[0,1,2,3,4,5,6,7,8,9,10,11,12,13,14,15,16,17,18,19,20,21],[0,1,2,3,4,5,6,7,8,9,10,11,12,13,14,15,16,17,18,19,20,21,22],[0,1,2,3,4,5,6,7,8,9,10,11,12,13,14,15,16,17,18,19,20,21,22,23]]
    [[],[],[],[],[],[],[],[],[],[],[],[],[],[],[],[],[],[],[],[],[],[],[],[],[]]
    [[],[],[],[],[],[],[],[],[],[],[],[],[],[],[],[],[],[],[],[],[],[],[],[],[]] (by kernel_rfl) (by kernel_rfl) (B7 (acc:=[]) ?_)
  simp (maxSteps:=2000000)only[go_sem];repeat' (with_reducible first|refine oD ?_|refine And.intro (by first|exact⟨hi0,hi1⟩|exact⟨hk0,hk1⟩|exact⟨hi0,by rw[hcl];exact hi1⟩|exact⟨hk0,by rw[hcl];exact hk1⟩|exact⟨ht1,ht2,hn1,hn2⟩|exact⟨by omega,by omega⟩) ?_|refine oT (fun g1=>?_) (fun g1=>?_)|refine oE (fun g1=>?_) (fun g1=>?_))
  all_goals
   refine hK2 _ ?_;refine A2 ?_;simp only[hres,go_sem]
   first
    | exact oG
    | refine ⟨oG, ?_⟩
      rw[B5I]
      (repeat' refine And.intro ?_ ?_)<;>first|rfl|(congr 1;done)|(clear hK1 hK2;simp_all [n0];done)
def B4l:F8:=fun f=>if f=39 then some (.g A6Y) else m5 f
theorem A65:B8 Tryz.prog B4l:=a8 C2b (B6 Tryz.func39 rfl (by decide)) D3
attribute [go_sem] B4l A6Y
def A3R:GCon where
  ps:=[.val (.int .i64),.po 0,.po 1]
  os:=[.box [.fn 39 [2,3]],.box [.rd (.int .i64)],.box [.ow 4],.box [.rd ((.prod (.row 26 (.row 2 (.int .i64))) (.prod (.row 56 (.prod (.int .i64) (.prod (.int .i64) (.prod (.int .i64) (.row 2 (.int .i64)))))) (.row 2 (.int .i64)))))],.row 2 (.int .i64)]
  c:=fun x=>uOk x.2.2.2.2.1.1.1 x.2.2.2.2.1.1.2.1∧x.2.2.2.2.2.1.length=x.2.2.2.2.1.1.2.1.length∧0≤x.1.1∧x.1.1 < x.2.2.2.2.1.1.2.1.length∧0≤x.2.2.1.1∧x.2.2.1.1 < x.2.2.2.2.1.1.2.1.length
  r:=fun x=>.c (.sc (.bool (C3 (Q6 x.2.2.2.2.1.1.1 x.2.2.2.2.1.1.2.1 x.2.2.2.2.2.1) (Int.toNat x.1.1) (Int.toNat x.2.2.1.1))))
  o:=fun x=>[(30,.box [.fn 39 [32,33]]),(31,.box [.sc (.int .i64 (x.2.2.1.1))]),(32,.box [.ow 34]),(33,.box [.rd [] 26 ((.row 2 (.int .i64))) (x.2.2.2.2.1.1.1),.rd [] 56 ((.prod (.int .i64) (.prod (.int .i64) (.prod (.int .i64) (.row 2 (.int .i64)))))) (x.2.2.2.2.1.1.2.1),.rd [] 2 (.int .i64) (x.2.2.2.2.1.1.2.2)]),(34,.row 2 (.int .i64) (x.2.2.2.2.2.1) [])]
  ok:=by
    rintro⟨⟨(k:Int),_⟩,⟨_,⟨(i:Int),_⟩,_,⟨⟨(ts:List (List Int)),(ns:List A4),(os:List Int)⟩,_⟩,(cl:List Int),_⟩⟩
    exact⟨rfl,rfl,by decide⟩
theorem B8m:W3 Tryz.prog 60 A3R:=by
  refine D8 Tryz.func60 rfl ?_
  have hres:Tryz.f60.results.toList=[.tmp 4]:=rfl
  rintro⟨⟨(k:Int),_⟩,⟨_,⟨(i:Int),_⟩,_,⟨⟨(ts:List (List Int)),(ns:List A4),(os:List Int)⟩,_⟩,(cl:List Int),_⟩⟩ hc hL hO
  simp only[A3R,go_sem] at hL
  simp only[A3R,go_sem] at hO
  simp only[A3R,St.init,St.initG,Tryz.ntmps60,go_sem] 
  have hcc:uOk ts ns∧cl.length=ns.length∧0≤k∧k < ns.length∧0≤i∧i < ns.length:=hc
  refine oS fun _ hK1=>?_;refine oW A65 ?_;simp only[go_sem];repeat(with_reducible first|refine oA ?_|refine And.intro (by first|exact hcc) ?_)
  refine hK1 _ ?_;refine oS fun _ hK2=>?_;refine oW A65 ?_;simp (maxSteps:=2000000)only[Tryz.underlying75,go_sem];repeat(with_reducible first|refine oA ?_|refine And.intro (by first|exact hcc) ?_)
  refine hK2 _ ?_;refine A2 ?_;simp only[hres,go_sem];first|exact oG|(refine⟨oG,?_⟩;(repeat' refine And.intro ?_ ?_)<;>first|rfl|(congr 1;done))
def B2G:F8:=fun f=>if f=60 then some (.g A3R) else B4l f
theorem U0:B8 Tryz.prog B2G:=a8 B8m (B6 Tryz.func60 rfl (by decide)) A65
attribute [go_sem] B2G A3R
def A1k:GCon where
  ps:=[.ow 5,.fn 60 [0,1]]
  os:=[.box [.fn 39 [2,3]],.box [.rd (.int .i64)],.box [.ow 4],.box [.rd ((.prod (.row 26 (.row 2 (.int .i64))) (.prod (.row 56 (.prod (.int .i64) (.prod (.int .i64) (.prod (.int .i64) (.row 2 (.int .i64)))))) (.row 2 (.int .i64)))))],.row 2 (.int .i64),.row 3 (.int .i64)]
  c:=fun x=>uOk x.2.2.2.2.1.1.1 x.2.2.2.2.1.1.2.1∧x.2.2.2.2.2.1.length=x.2.2.2.2.1.1.2.1.length∧0≤x.2.2.1.1∧x.2.2.1.1 < x.2.2.2.2.1.1.2.1.length∧∀k∈(x.2.2.2.2.2.2.1:List Int),0≤k∧k < x.2.2.2.2.1.1.2.1.length
  r:=fun x=>.c (.sc (.int .i64 (A9P (fun k=>C3 (Q6 x.2.2.2.2.1.1.1 x.2.2.2.2.1.1.2.1 x.2.2.2.2.2.1) (Int.toNat k) (Int.toNat x.2.2.1.1)) x.2.2.2.2.2.2.1)))
  o:=fun x=>[(30,.box [.fn 39 [32,33]]),(31,.box [.sc (.int .i64 (x.2.2.1.1))]),(32,.box [.ow 34]),(33,.box [.rd [] 26 ((.row 2 (.int .i64))) (x.2.2.2.2.1.1.1),.rd [] 56 ((.prod (.int .i64) (.prod (.int .i64) (.prod (.int .i64) (.row 2 (.int .i64)))))) (x.2.2.2.2.1.1.2.1),.rd [] 2 (.int .i64) (x.2.2.2.2.1.1.2.2)]),(34,.row 2 (.int .i64) (x.2.2.2.2.2.1) []),(35,.row 3 (.int .i64) (x.2.2.2.2.2.2.1) [])]
  ok:=by
    rintro⟨_,⟨_,⟨(i:Int),_⟩,_,⟨⟨(ts:List (List Int)),(ns:List A4),(os:List Int)⟩,_⟩,(cl:List Int),(fs:List Int),_⟩⟩
    exact⟨rfl,rfl,by decide⟩
theorem B8Z:W3 Tryz.prog 59 A1k:=by
  refine D8 Tryz.func59 rfl ?_
  have hres:Tryz.f59.results.toList=[.tmp 4]:=rfl
  rintro⟨_,⟨_,⟨(i:Int),_⟩,_,⟨⟨(ts:List (List Int)),(ns:List A4),(os:List Int)⟩,_⟩,(cl:List Int),(fs:List Int),_⟩⟩ hc hL hO
  simp only[A1k,go_sem] at hL
  simp only[A1k,go_sem] at hO
  simp only[A1k,St.init,St.initG,Tryz.ntmps59,go_sem] 
  obtain⟨hU,hcl,hi0,hi1,hfk⟩:=(show uOk ts ns∧cl.length=ns.length∧0≤i∧i < ns.length∧∀k∈(fs:List Int),0≤k∧k < ns.length from hc)
  refine oS fun _ hK1=>?_;refine oW U0 ?_;simp only[go_sem];refine hK1 _ ?_;refine oS fun _ hK2=>?_;refine oS fun _ hK3=>?_;refine oW U0 ?_;simp only[go_sem];refine hK3 _ ?_;refine A5 ?_;refine B4 (ι:={ j:Nat // j≤fs.length∧∀q,q < j→(fun k=>C3 (Q6 ts ns cl) (Int.toNat k) (Int.toNat i)) (fs.getD q 0)=false }) (fun k=>⟨[.c (.ow 35),.c (.fn 60 [30,31]),zz,zz,zz,zz,zz,.c (.sc (.int .i64 (fs.length))),.c (.sc (.int .i64 (k.1))),zz,zz,zz,zz,zz,zz,zz,zz,zz,zz],[(30,.box [.fn 39 [32,33]]),(31,.box [.sc (.int .i64 (i))]),(32,.box [.ow 34]),(33,.box [.rd [] 26 ((.row 2 (.int .i64))) (ts),.rd [] 56 ((.prod (.int .i64) (.prod (.int .i64) (.prod (.int .i64) (.row 2 (.int .i64)))))) (ns),.rd [] 2 (.int .i64) (os)]),(34,.row 2 (.int .i64) (cl) []),(35,.row 3 (.int .i64) (fs) [])]⟩) (fun k=>fs.length - k.1) ⟨0,by simp,fun q hq=>absurd hq (Nat.not_lt_zero _)⟩ ?_ ?_
  ·
   refine oK ?_;simp (maxSteps:=2000000)only[go_sem];all_goals((repeat' refine And.intro ?_ ?_)<;>first|rfl|(congr 1;done)|simp)
  rintro⟨j,hj,hjp⟩ K4 hL4
  have hfx:j < fs.length→0≤fs.getD j 0∧fs.getD j 0 < ns.length:=fun h=>hfk _ (B9 h)
  refine oS fun _ hK5=>?_;refine oW U0 ?_;simp only[go_sem];refine hK5 _ ?_;refine oS fun _ hK6=>?_;refine oC rfl ?_ ?_
  ·
   intro c0;obtain⟨hf1,hf2⟩:=hfx (by omega)
   refine A3 ?_;simp only[go_sem];refine hK6 _ ?_;refine oS fun _ hK7=>?_;refine A5 ?_;refine oS fun _ hK8=>?_;refine oW U0 ?_;simp only[go_sem];refine hK8 _ ?_;refine oS fun _ hK9=>?_;refine oW U0 ?_;simp (maxSteps:=2000000)only[go_sem];repeat(with_reducible first|refine oA ?_|refine And.intro (by first|exact⟨hU,hcl,hf1,hf2,hi0,hi1⟩|omega) ?_)
   refine hK9 _ ?_;refine oC rfl ?_ ?_
   ·
    intro c1;refine oS fun _ hK10=>?_;refine oW U0 ?_;simp only[go_sem];refine hK10 _ ?_;refine A2 ?_;simp only[hres,go_sem];first|exact oG|(refine⟨oG,?_⟩;(repeat' refine And.intro ?_ ?_)<;>first|rfl|(rw[A56 (by omega) hjp (by assumption)])|(congr 1;exact(A56 (by omega) hjp (by assumption)).symm)|(congr 1;done))
   intro c1;refine A3 ?_;simp only[go_sem];refine hK7 _ ?_;refine oW U0 ?_;simp only[go_sem];refine hL4 ⟨j+1,by omega,fun q hq=>by rcases Nat.lt_succ_iff_lt_or_eq.1 hq with h|h;exact hjp q h;subst h;assumption⟩ _ (oK ?_) ?_
   ·
    simp (maxSteps:=2000000)only[go_sem];all_goals((repeat' refine And.intro ?_ ?_)<;>first|rfl|exact wk (by omega)|(congr 1;done))
   ·
    first|(simp only[];omega)|omega|(simp;omega)
  intro c0;refine C2 ?_;simp only[go_sem];refine hK2 _ ?_;refine oS fun _ hK11=>?_;refine oW U0 ?_;simp only[go_sem];refine hK11 _ ?_;refine A2 ?_;simp only[hres,go_sem];first|exact oG|(refine⟨oG,?_⟩;(repeat' refine And.intro ?_ ?_)<;>first|rfl|(rw[A3W (by omega) hjp])|(congr 1;exact(A3W (by omega) hjp).symm)|(congr 1;done))
def A7v:F8:=fun f=>if f=59 then some (.g A1k) else B2G f
theorem I6:B8 Tryz.prog A7v:=a8 B8Z (B6 Tryz.func59 rfl (by decide)) U0
attribute [go_sem] A7v A1k
def z6:GCon where
  ps:=[.val ((.prod (.row 26 (.row 2 (.int .i64))) (.prod (.row 56 (.prod (.int .i64) (.prod (.int .i64) (.prod (.int .i64) (.row 2 (.int .i64)))))) (.row 2 (.int .i64))))),.fn 39 [0,1]]
  os:=[.box [.ow 2],.box [.rd ((.prod (.row 26 (.row 2 (.int .i64))) (.prod (.row 56 (.prod (.int .i64) (.prod (.int .i64) (.prod (.int .i64) (.row 2 (.int .i64)))))) (.row 2 (.int .i64)))))],.row 2 (.int .i64)]
  c:=fun x=>uOk x.2.2.1.1.1 x.2.2.1.1.2.1∧x.2.2.2.1.length=x.2.2.1.1.2.1.length∧x.1.1.2.1.length=x.2.2.1.1.2.1.length
  r:=fun _=>.c (.ow 10)
  o:=fun x=>[(30,.box [.ow 32]),(31,.box [.rd [] 26 ((.row 2 (.int .i64))) (x.2.2.1.1.1),.rd [] 56 ((.prod (.int .i64) (.prod (.int .i64) (.prod (.int .i64) (.row 2 (.int .i64)))))) (x.2.2.1.1.2.1),.rd [] 2 (.int .i64) (x.2.2.1.1.2.2)]),(32,.row 2 (.int .i64) (x.2.2.2.1) []),(10,.row 2 (.int .i64) ((E1 (C3 (Q6 x.2.2.1.1.1 x.2.2.1.1.2.1 x.2.2.2.1)) (List.length x.2.2.1.1.2.1)).1) [])]
  ok:=by
    rintro⟨⟨⟨(ts2:List (List Int)),(ns2:List A4),(os2:List Int)⟩,_⟩,⟨_,⟨⟨(ts:List (List Int)),(ns:List A4),(os:List Int)⟩,_⟩,(cl:List Int),_⟩⟩
    exact⟨rfl,rfl,by decide⟩
theorem B5X:W3 Tryz.prog 36 z6:=by
  refine D8 Tryz.func36 rfl ?_
  have hres:Tryz.f36.results.toList=[.tmp 4]:=rfl
  rintro⟨⟨⟨(ts2:List (List Int)),(ns2:List A4),(os2:List Int)⟩,_⟩,⟨_,⟨⟨(ts:List (List Int)),(ns:List A4),(os:List Int)⟩,_⟩,(cl:List Int),_⟩⟩ hc hL hO
  simp only[z6,go_sem] at hL
  simp only[z6,go_sem] at hO
  simp only[z6,St.init,St.initG,Tryz.ntmps36,go_sem] 
  obtain⟨hU,hcl,hlen⟩:=(show uOk ts ns∧cl.length=ns.length∧ns2.length=ns.length from hc)
  have hul:ns.length≤48:=hU.1
  have hzc:O7 (ns2.length:Int) 0 1099511627776=true:=L2 (by omega) (by omega)
  refine oS fun _ hK1=>?_;refine oW I6 ?_;simp only[go_sem];refine hK1 _ ?_;refine oS fun _ hK2=>?_;refine oW I6 ?_;simp (maxSteps:=2000000)only[List.nodup_nil,go_sem];repeat(with_reducible first|refine oA ?_|refine And.intro (by first|exact hzc) ?_)
  refine hK2 _ ?_;refine oS fun _ hK3=>?_;refine oS fun _ hK4=>?_;refine oW I6 ?_;simp only[go_sem];repeat(with_reducible refine oA ?_)
  refine hK4 _ ?_;refine A5 ?_;refine B4 (ι:={ m:Nat // m≤ns.length }) (fun k=>⟨[zz,zz,zz,.c (.po 148 0),zz,.c (.ow 9001),.c (.ow 9002),zz,zz,zz,zz,zz,zz,zz,zz,zz,.c (.sc (.int .i64 (ns.length))),.c (.sc (.int .i64 (k.1))),zz,zz,zz,zz,zz,zz,zz,zz,zz,zz,zz,zz,zz,zz,zz,zz,zz,zz,zz],[(30,.box [.ow 32]),(31,.box [.rd [] 26 ((.row 2 (.int .i64))) (ts),.rd [] 56 ((.prod (.int .i64) (.prod (.int .i64) (.prod (.int .i64) (.row 2 (.int .i64)))))) (ns),.rd [] 2 (.int .i64) (os)]),(32,.row 2 (.int .i64) (cl) []),(148,.box [.fn 39 [30,31]]),(9001,.row 2 (.int .i64) (A0W (C3 (Q6 ts ns cl)) ns.length k.1) []),(9002,.row 3 (.int .i64) (J5 (C3 (Q6 ts ns cl)) k.1) [])]⟩) (fun k=>ns.length - k.1) ⟨0,by simp⟩ ?_ ?_
  ·
   refine oK ?_;simp (maxSteps:=2000000)only[go_sem];all_goals((repeat' refine And.intro ?_ ?_)<;>first|rfl|(rw[hlen];done)|(rw[hlen];simp[A0W,E1,J5];done)|(simp[A0W,E1,J5,hlen];done)|(congr 1;done))
  rintro⟨m,hm⟩ K5 hL5
  have hok:DivOk (C3 (Q6 ts ns cl)) m (E1 (C3 (Q6 ts ns cl)) m):=Y5 _ m
  have hol:(A0W (C3 (Q6 ts ns cl)) ns.length m).length=ns.length:=B3S hok.len hm
  have hfl:=hok.lt
  have hfz:∀k∈J5 (C3 (Q6 ts ns cl)) m,0≤k∧k < (ns.length:Int):=fun k hk=>by
    obtain⟨q,hq,rfl⟩:=List.mem_map.1 hk
    obtain⟨c,hc9,rfl⟩:=List.mem_iff_getElem.1 hq
    have:=hfl c hc9
    rw[List.getD_eq_getElem?_getD,List.getElem?_eq_getElem hc9] at this
    simp only[Option.getD_some] at this
    omega
  have hfml:(J5 (C3 (Q6 ts ns cl)) m).length≤m:=by rw[A2G];exact Z7 _ m
  obtain⟨FZ,hFZ⟩:∃FZ,A9P (fun k=>(C3 (Q6 ts ns cl)) (Int.toNat k) m) (J5 (C3 (Q6 ts ns cl)) m)=FZ:=⟨_,rfl⟩
  have hFE:A4E (C3 (Q6 ts ns cl)) m=FZ:=hFZ
  have hsetH:0≤FZ→m < ns.length→(A0W (C3 (Q6 ts ns cl)) ns.length m).set m FZ=A0W (C3 (Q6 ts ns cl)) ns.length (m+1):=fun h hm=>A5J hok.len hm (by rw[←hFE] at h ⊢;exact(A7I h).1)
  have hsetN:FZ < 0→m < ns.length→(A0W (C3 (Q6 ts ns cl)) ns.length m).set m ((J5 (C3 (Q6 ts ns cl)) m).length:Int)=A0W (C3 (Q6 ts ns cl)) ns.length (m+1):=fun h hm=>A5J hok.len hm (by rw[←hFE] at h;exact(A7F h).1)
  have hfsH:0≤FZ→J5 (C3 (Q6 ts ns cl)) (m+1)=J5 (C3 (Q6 ts ns cl)) m:=fun h=>by rw[←hFE] at h;exact(A7I h).2
  have hfsN:FZ < 0→J5 (C3 (Q6 ts ns cl)) (m+1)=J5 (C3 (Q6 ts ns cl)) m++[(m:Int)]:=fun h=>by rw[←hFE] at h;exact(A7F h).2
  refine oS fun _ hK6=>?_;refine oW I6 ?_;simp only[go_sem];refine hK6 _ ?_;refine oS fun _ hK7=>?_;refine oC rfl ?_ ?_
  ·
   intro c0;have hm0:(0:Int)≤(m:Int):=by omega
   have hm1:(m:Int) < (ns.length:Int):=by omega
   refine A3 ?_;simp only[go_sem];refine hK7 _ ?_;refine oS fun _ hK8=>?_;refine A5 ?_;refine oS fun _ hK9=>?_;refine oW I6 ?_;simp only[go_sem];repeat(with_reducible refine oA ?_)
   refine hK9 _ ?_;refine oS fun _ hK10=>?_;refine oW I6 ?_;simp only[hFZ,go_sem];repeat(with_reducible first|refine oA ?_|refine And.intro (by first|exact⟨hU,hcl,hm0,hm1,hfz⟩) ?_)
   refine hK10 _ ?_;refine oS fun _ hK11=>?_;refine oS fun _ hK12=>?_;refine oW I6 ?_;simp only[go_sem];refine hK12 _ ?_;refine oC rfl ?_ ?_
   ·
    intro c1;refine oS fun _ hK13=>?_;refine oW I6 ?_;simp only[go_sem];refine hK13 _ ?_;refine oW I6 ?_;simp (maxSteps:=2000000)only[List.nodup_nil,go_sem];repeat(with_reducible first|refine oA ?_|refine And.intro (by first|omega) ?_)
    refine hK11 _ ?_;refine oW I6 ?_;simp (maxSteps:=2000000)only[List.nodup_nil,go_sem];repeat(with_reducible first|refine oA ?_|refine And.intro (by first|exact⟨by omega,by omega⟩|omega) ?_)
    refine hK8 _ ?_;refine oW I6 ?_;simp only[go_sem];refine hL5 ⟨m+1,by omega⟩ _ (oK ?_) ?_
    ·
     simp (maxSteps:=2000000)only[go_sem];all_goals((repeat' refine And.intro ?_ ?_)<;>first|rfl|exact wk (by omega)|exact hsetH (by omega) (by omega)|exact hsetN (by omega) (by omega)|exact(hfsH (by omega)).symm|exact(hfsN (by omega)).symm|(congr 1;done))
    ·
     first|(simp only[];omega)|omega|(simp;omega)
   intro c1;refine A3 ?_;simp only[go_sem];refine hK11 _ ?_;refine oW I6 ?_;simp (maxSteps:=2000000)only[List.nodup_nil,go_sem];repeat(with_reducible first|refine oA ?_|refine And.intro (by first|exact⟨by omega,by omega⟩|omega) ?_)
   refine hK8 _ ?_;refine oW I6 ?_;simp only[go_sem];refine hL5 ⟨m+1,by omega⟩ _ (oK ?_) ?_
   ·
    simp (maxSteps:=2000000)only[go_sem];all_goals((repeat' refine And.intro ?_ ?_)<;>first|rfl|exact wk (by omega)|exact hsetH (by omega) (by omega)|exact hsetN (by omega) (by omega)|exact(hfsH (by omega)).symm|exact(hfsN (by omega)).symm|(congr 1;done))
   ·
    first|(simp only[];omega)|omega|(simp;omega)
  intro c0;refine C2 ?_;simp only[go_sem];refine hK3 _ ?_;refine oS fun _ hK14=>?_;refine oW I6 ?_;simp only[go_sem];refine hK14 _ ?_;refine A2 ?_;simp only[hres,go_sem];first|exact oG|(refine⟨oG,?_⟩;(repeat' refine And.intro ?_ ?_)<;>first|rfl|(rw[B40 (by omega),show m=ns.length by omega])|(congr 1;done))
def A9z:F8:=fun f=>if f=36 then some (.g z6) else A7v f
theorem B1i:B8 Tryz.prog A9z:=a8 B5X (B6 Tryz.func36 rfl (by decide)) I6
attribute [go_sem] A9z z6
end Go.Proofs.YtflobmmbhaofbaaGreat
