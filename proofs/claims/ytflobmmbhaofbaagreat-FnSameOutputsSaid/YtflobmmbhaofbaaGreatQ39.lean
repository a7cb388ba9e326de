/-
  Texts of this claim, joined (part 39). No condition beyond those of the theorems.
-/
import Derived.Test.YtflobmmbhaofbaaGreatQ22
namespace Go.Proofs.YtflobmmbhaofbaaGreat
open Go.RowKit
set_option linter.unusedSimpArgs false
set_option linter.unusedVariables false
set_option maxRecDepth 100000
set_option maxHeartbeats 8000000
def A5m:GCon where
  ps:=[.val (.int .i64),.val (.int .i64),.po 0]
  os:=[.box [.rd ((.prod (.row 26 (.row 2 (.int .i64))) (.prod (.row 56 (.prod (.int .i64) (.prod (.int .i64) (.prod (.int .i64) (.row 2 (.int .i64)))))) (.row 2 (.int .i64)))))]]
  c:=fun x=>uOk x.2.1.1.1 x.2.1.1.2.1∧0≤x.1.1∧x.1.1 < x.2.1.1.2.1.length∧0≤x.1.2.1∧x.1.2.1 < x.2.1.1.2.1.length
  r:=fun x=>.c (.sc (.bool (C3 (J7 x.2.1.1.1 x.2.1.1.2.1) (Int.toNat x.1.1) (Int.toNat x.1.2.1))))
  o:=fun x=>[(30,.box [.rd [] 26 ((.row 2 (.int .i64))) (x.2.1.1.1),.rd [] 56 ((.prod (.int .i64) (.prod (.int .i64) (.prod (.int .i64) (.row 2 (.int .i64)))))) (x.2.1.1.2.1),.rd [] 2 (.int .i64) (x.2.1.1.2.2)])]
  ok:=by
    rintro⟨⟨(i:Int),(k:Int),_⟩,⟨⟨⟨(ts:List (List Int)),(ns:List A4),(os:List Int)⟩,_⟩,_⟩⟩
    exact⟨rfl,rfl,by decide⟩
theorem C1T:W3 Tryz.prog 37 A5m:=by
  refine D8 Tryz.func37 rfl ?_
  have hres:Tryz.f37.results.toList=[.tmp 5]:=rfl
  rintro⟨⟨(i:Int),(k:Int),_⟩,⟨⟨⟨(ts:List (List Int)),(ns:List A4),(os:List Int)⟩,_⟩,_⟩⟩ hc hL hO
  simp only[A5m,go_sem] at hL
  simp only[A5m,go_sem] at hO
  simp only[A5m,St.init,St.initG,Tryz.ntmps37,go_sem] 
  obtain⟨hU,hi0,hi1,hk0,hk1⟩:=(show uOk ts ns∧0≤i∧i < ns.length∧0≤k∧k < ns.length from hc)
  obtain⟨hul,hun⟩:=hU;have hx1:i.toNat < ns.length:=by omega
  have hx2:k.toNat < ns.length:=by omega
  obtain⟨ht1,hn1⟩:=hun _ (B9 (d:=((0,0,0,[]):A4)) hx1)
  obtain⟨ht2,hn2⟩:=hun _ (B9 (d:=((0,0,0,[]):A4)) hx2)
  have ht1:T5 ts ((ns.getD i.toNat ((0,0,0,[]):A4)).1,(ns.getD i.toNat ((0,0,0,[]):A4)).2.1,(ns.getD i.toNat ((0,0,0,[]):A4)).2.2.1,(ns.getD i.toNat ((0,0,0,[]):A4)).2.2.2):=ht1
  have ht2:T5 ts ((ns.getD k.toNat ((0,0,0,[]):A4)).1,(ns.getD k.toNat ((0,0,0,[]):A4)).2.1,(ns.getD k.toNat ((0,0,0,[]):A4)).2.2.1,(ns.getD k.toNat ((0,0,0,[]):A4)).2.2.2):=ht2
  have hn1:j9 ns.length ((ns.getD i.toNat ((0,0,0,[]):A4)).1,(ns.getD i.toNat ((0,0,0,[]):A4)).2.1,(ns.getD i.toNat ((0,0,0,[]):A4)).2.2.1,(ns.getD i.toNat ((0,0,0,[]):A4)).2.2.2):=hn1
  have hn2:j9 ns.length ((ns.getD k.toNat ((0,0,0,[]):A4)).1,(ns.getD k.toNat ((0,0,0,[]):A4)).2.1,(ns.getD k.toNat ((0,0,0,[]):A4)).2.2.1,(ns.getD k.toNat ((0,0,0,[]):A4)).2.2.2):=hn2
  refine oS fun _ hK1=>?_;refine oW D3 ?_;simp only[go_sem];repeat(with_reducible first|refine oA ?_|refine And.intro (by first|exact⟨hi0,hi1⟩|exact⟨hk0,hk1⟩|exact⟨ht1,ht2⟩) ?_)
  refine hK1 _ ?_;refine oS fun _ hK2=>?_
  refine oR D3
    [[],[],[1],[],[1,2,3],[1,2,3,4],[],[6],[],[6,7,8],[6,7,8,9],[0,1,2,3,4,5,6,7,8,9,10],[0,1,2,3,4,5,6,7,8,9,10,11]]
    [[],[],[],[],[],[],[],[],[],[],[],[],[]]
    [[],[],[],[],[],[],[],[],[],[],[],[],[]] (by kernel_rfl) (by kernel_rfl) (B7 (acc:=[]) ?_)
  simp (maxSteps:=2000000)only[go_sem];repeat(with_reducible first|refine oD ?_|refine And.intro (by first|exact⟨hi0,hi1⟩|exact⟨hk0,hk1⟩|exact⟨ht1,ht2⟩) ?_)
  refine hK2 _ ?_;refine A2 ?_;simp only[hres,go_sem];first|exact oG|(refine⟨oG,?_⟩;(repeat' refine And.intro ?_ ?_)<;>first|rfl|(congr 1;done))
def B6A:F8:=fun f=>if f=37 then some (.g A5m) else m5 f
theorem A6T:B8 Tryz.prog B6A:=a8 C1T (B6 Tryz.func37 rfl (by decide)) D3
attribute [go_sem] B6A A5m
def A3b:GCon where
  ps:=[.val (.int .i64),.po 0,.po 1]
  os:=[.box [.fn 37 [2]],.box [.rd (.int .i64)],.box [.rd ((.prod (.row 26 (.row 2 (.int .i64))) (.prod (.row 56 (.prod (.int .i64) (.prod (.int .i64) (.prod (.int .i64) (.row 2 (.int .i64)))))) (.row 2 (.int .i64)))))]]
  c:=fun x=>uOk x.2.2.2.1.1.1 x.2.2.2.1.1.2.1∧0≤x.1.1∧x.1.1 < x.2.2.2.1.1.2.1.length∧0≤x.2.2.1.1∧x.2.2.1.1 < x.2.2.2.1.1.2.1.length
  r:=fun x=>.c (.sc (.bool (C3 (J7 x.2.2.2.1.1.1 x.2.2.2.1.1.2.1) (Int.toNat x.1.1) (Int.toNat x.2.2.1.1))))
  o:=fun x=>[(30,.box [.fn 37 [32]]),(31,.box [.sc (.int .i64 (x.2.2.1.1))]),(32,.box [.rd [] 26 ((.row 2 (.int .i64))) (x.2.2.2.1.1.1),.rd [] 56 ((.prod (.int .i64) (.prod (.int .i64) (.prod (.int .i64) (.row 2 (.int .i64)))))) (x.2.2.2.1.1.2.1),.rd [] 2 (.int .i64) (x.2.2.2.1.1.2.2)])]
  ok:=by
    rintro⟨⟨(k:Int),_⟩,⟨_,⟨(i:Int),_⟩,⟨⟨(ts:List (List Int)),(ns:List A4),(os:List Int)⟩,_⟩,_⟩⟩
    exact⟨rfl,rfl,by decide⟩
theorem C19:W3 Tryz.prog 60 A3b:=by
  refine D8 Tryz.func60 rfl ?_
  have hres:Tryz.f60.results.toList=[.tmp 4]:=rfl
  rintro⟨⟨(k:Int),_⟩,⟨_,⟨(i:Int),_⟩,⟨⟨(ts:List (List Int)),(ns:List A4),(os:List Int)⟩,_⟩,_⟩⟩ hc hL hO
  simp only[A3b,go_sem] at hL
  simp only[A3b,go_sem] at hO
  simp only[A3b,St.init,St.initG,Tryz.ntmps60,go_sem] 
  have hcc:uOk ts ns∧0≤k∧k < ns.length∧0≤i∧i < ns.length:=hc
  refine oS fun _ hK1=>?_;refine oW A6T ?_;simp only[go_sem];repeat(with_reducible first|refine oA ?_|refine And.intro (by first|exact hcc) ?_)
  refine hK1 _ ?_;refine oS fun _ hK2=>?_;refine oW A6T ?_;simp (maxSteps:=2000000)only[Tryz.underlying75,go_sem];repeat(with_reducible first|refine oA ?_|refine And.intro (by first|exact hcc) ?_)
  refine hK2 _ ?_;refine A2 ?_;simp only[hres,go_sem];first|exact oG|(refine⟨oG,?_⟩;(repeat' refine And.intro ?_ ?_)<;>first|rfl|(congr 1;done))
def B1u:F8:=fun f=>if f=60 then some (.g A3b) else B6A f
theorem U1:B8 Tryz.prog B1u:=a8 C19 (B6 Tryz.func60 rfl (by decide)) A6T
attribute [go_sem] B1u A3b
def A1L:GCon where
  ps:=[.ow 3,.fn 60 [0,1]]
  os:=[.box [.fn 37 [2]],.box [.rd (.int .i64)],.box [.rd ((.prod (.row 26 (.row 2 (.int .i64))) (.prod (.row 56 (.prod (.int .i64) (.prod (.int .i64) (.prod (.int .i64) (.row 2 (.int .i64)))))) (.row 2 (.int .i64)))))],.row 3 (.int .i64)]
  c:=fun x=>uOk x.2.2.2.1.1.1 x.2.2.2.1.1.2.1∧0≤x.2.2.1.1∧x.2.2.1.1 < x.2.2.2.1.1.2.1.length∧∀k∈(x.2.2.2.2.1:List Int),0≤k∧k < x.2.2.2.1.1.2.1.length
  r:=fun x=>.c (.sc (.int .i64 (A9P (fun k=>C3 (J7 x.2.2.2.1.1.1 x.2.2.2.1.1.2.1) (Int.toNat k) (Int.toNat x.2.2.1.1)) x.2.2.2.2.1)))
  o:=fun x=>[(30,.box [.fn 37 [32]]),(31,.box [.sc (.int .i64 (x.2.2.1.1))]),(32,.box [.rd [] 26 ((.row 2 (.int .i64))) (x.2.2.2.1.1.1),.rd [] 56 ((.prod (.int .i64) (.prod (.int .i64) (.prod (.int .i64) (.row 2 (.int .i64)))))) (x.2.2.2.1.1.2.1),.rd [] 2 (.int .i64) (x.2.2.2.1.1.2.2)]),(33,.row 3 (.int .i64) (x.2.2.2.2.1) [])]
  ok:=by
    rintro⟨_,⟨_,⟨(i:Int),_⟩,⟨⟨(ts:List (List Int)),(ns:List A4),(os:List Int)⟩,_⟩,(fs:List Int),_⟩⟩
    exact⟨rfl,rfl,by decide⟩
theorem B8W:W3 Tryz.prog 59 A1L:=by
  refine D8 Tryz.func59 rfl ?_
  have hres:Tryz.f59.results.toList=[.tmp 4]:=rfl
  rintro⟨_,⟨_,⟨(i:Int),_⟩,⟨⟨(ts:List (List Int)),(ns:List A4),(os:List Int)⟩,_⟩,(fs:List Int),_⟩⟩ hc hL hO
  simp only[A1L,go_sem] at hL
  simp only[A1L,go_sem] at hO
  simp only[A1L,St.init,St.initG,Tryz.ntmps59,go_sem] 
  obtain⟨hU,hi0,hi1,hfk⟩:=(show uOk ts ns∧0≤i∧i < ns.length∧∀k∈(fs:List Int),0≤k∧k < ns.length from hc)
  refine oS fun _ hK1=>?_;refine oW U1 ?_;simp only[go_sem];refine hK1 _ ?_;refine oS fun _ hK2=>?_;refine oS fun _ hK3=>?_;refine oW U1 ?_;simp only[go_sem];refine hK3 _ ?_;refine A5 ?_;refine B4 (ι:={ j:Nat // j≤fs.length∧∀q,q < j→(fun k=>C3 (J7 ts ns) (Int.toNat k) (Int.toNat i)) (fs.getD q 0)=false }) (fun k=>⟨[.c (.ow 33),.c (.fn 60 [30,31]),zz,zz,zz,zz,zz,.c (.sc (.int .i64 (fs.length))),.c (.sc (.int .i64 (k.1))),zz,zz,zz,zz,zz,zz,zz,zz,zz,zz],[(30,.box [.fn 37 [32]]),(31,.box [.sc (.int .i64 (i))]),(32,.box [.rd [] 26 ((.row 2 (.int .i64))) (ts),.rd [] 56 ((.prod (.int .i64) (.prod (.int .i64) (.prod (.int .i64) (.row 2 (.int .i64)))))) (ns),.rd [] 2 (.int .i64) (os)]),(33,.row 3 (.int .i64) (fs) [])]⟩) (fun k=>fs.length - k.1) ⟨0,by simp,fun q hq=>absurd hq (Nat.not_lt_zero _)⟩ ?_ ?_
  ·
   refine oK ?_;simp (maxSteps:=2000000)only[go_sem];all_goals((repeat' refine And.intro ?_ ?_)<;>first|rfl|(congr 1;done)|simp)
  rintro⟨j,hj,hjp⟩ K4 hL4
  have hfx:j < fs.length→0≤fs.getD j 0∧fs.getD j 0 < ns.length:=fun h=>hfk _ (B9 h)
  refine oS fun _ hK5=>?_;refine oW U1 ?_;simp only[go_sem];refine hK5 _ ?_;refine oS fun _ hK6=>?_;refine oC rfl ?_ ?_
  ·
   intro c0;obtain⟨hf1,hf2⟩:=hfx (by omega)
   refine A3 ?_;simp only[go_sem];refine hK6 _ ?_;refine oS fun _ hK7=>?_;refine A5 ?_;refine oS fun _ hK8=>?_;refine oW U1 ?_;simp only[go_sem];refine hK8 _ ?_;refine oS fun _ hK9=>?_;refine oW U1 ?_;simp (maxSteps:=2000000)only[go_sem];repeat(with_reducible first|refine oA ?_|refine And.intro (by first|exact⟨hU,hf1,hf2,hi0,hi1⟩|omega) ?_)
   refine hK9 _ ?_;refine oC rfl ?_ ?_
   ·
    intro c1;refine oS fun _ hK10=>?_;refine oW U1 ?_;simp only[go_sem];refine hK10 _ ?_;refine A2 ?_;simp only[hres,go_sem];first|exact oG|(refine⟨oG,?_⟩;(repeat' refine And.intro ?_ ?_)<;>first|rfl|(rw[A56 (by omega) hjp (by assumption)])|(congr 1;exact(A56 (by omega) hjp (by assumption)).symm)|(congr 1;done))
   intro c1;refine A3 ?_;simp only[go_sem];refine hK7 _ ?_;refine oW U1 ?_;simp only[go_sem];refine hL4 ⟨j+1,by omega,fun q hq=>by rcases Nat.lt_succ_iff_lt_or_eq.1 hq with h|h;exact hjp q h;subst h;assumption⟩ _ (oK ?_) ?_
   ·
    simp (maxSteps:=2000000)only[go_sem];all_goals((repeat' refine And.intro ?_ ?_)<;>first|rfl|exact wk (by omega)|(congr 1;done))
   ·
    first|(simp only[];omega)|omega|(simp;omega)
  intro c0;refine C2 ?_;simp only[go_sem];refine hK2 _ ?_;refine oS fun _ hK11=>?_;refine oW U1 ?_;simp only[go_sem];refine hK11 _ ?_;refine A2 ?_;simp only[hres,go_sem];first|exact oG|(refine⟨oG,?_⟩;(repeat' refine And.intro ?_ ?_)<;>first|rfl|(rw[A3W (by omega) hjp])|(congr 1;exact(A3W (by omega) hjp).symm)|(congr 1;done))
def A7f:F8:=fun f=>if f=59 then some (.g A1L) else B1u f
theorem I8:B8 Tryz.prog A7f:=a8 B8W (B6 Tryz.func59 rfl (by decide)) U1
attribute [go_sem] A7f A1L
def A0B:GCon where
  ps:=[.val ((.prod (.row 26 (.row 2 (.int .i64))) (.prod (.row 56 (.prod (.int .i64) (.prod (.int .i64) (.prod (.int .i64) (.row 2 (.int .i64)))))) (.row 2 (.int .i64))))),.fn 37 [0]]
  os:=[.box [.rd ((.prod (.row 26 (.row 2 (.int .i64))) (.prod (.row 56 (.prod (.int .i64) (.prod (.int .i64) (.prod (.int .i64) (.row 2 (.int .i64)))))) (.row 2 (.int .i64)))))]]
  c:=fun x=>uOk x.2.1.1.1 x.2.1.1.2.1∧x.1.1.2.1.length=x.2.1.1.2.1.length
  r:=fun _=>.c (.ow 10)
  o:=fun x=>[(30,.box [.rd [] 26 ((.row 2 (.int .i64))) (x.2.1.1.1),.rd [] 56 ((.prod (.int .i64) (.prod (.int .i64) (.prod (.int .i64) (.row 2 (.int .i64)))))) (x.2.1.1.2.1),.rd [] 2 (.int .i64) (x.2.1.1.2.2)]),(10,.row 2 (.int .i64) ((E1 (C3 (J7 x.2.1.1.1 x.2.1.1.2.1)) (List.length x.2.1.1.2.1)).1) [])]
  ok:=by
    rintro⟨⟨⟨(ts2:List (List Int)),(ns2:List A4),(os2:List Int)⟩,_⟩,⟨⟨⟨(ts:List (List Int)),(ns:List A4),(os:List Int)⟩,_⟩,_⟩⟩
    exact⟨rfl,rfl,by decide⟩
theorem B4u:W3 Tryz.prog 36 A0B:=by
  refine D8 Tryz.func36 rfl ?_
  have hres:Tryz.f36.results.toList=[.tmp 4]:=rfl
  rintro⟨⟨⟨(ts2:List (List Int)),(ns2:List A4),(os2:List Int)⟩,_⟩,⟨⟨⟨(ts:List (List Int)),(ns:List A4),(os:List Int)⟩,_⟩,_⟩⟩ hc hL hO
  simp only[A0B,go_sem] at hL
  simp only[A0B,go_sem] at hO
  simp only[A0B,St.init,St.initG,Tryz.ntmps36,go_sem] 
  obtain⟨hU,hlen⟩:=(show uOk ts ns∧ns2.length=ns.length from hc)
  have hul:ns.length≤48:=hU.1
  have hzc:O7 (ns2.length:Int) 0 1099511627776=true:=L2 (by omega) (by omega)
  refine oS fun _ hK1=>?_;refine oW I8 ?_;simp only[go_sem];refine hK1 _ ?_;refine oS fun _ hK2=>?_;refine oW I8 ?_;simp (maxSteps:=2000000)only[List.nodup_nil,go_sem];repeat(with_reducible first|refine oA ?_|refine And.intro (by first|exact hzc) ?_)
  refine hK2 _ ?_;refine oS fun _ hK3=>?_;refine oS fun _ hK4=>?_;refine oW I8 ?_;simp only[go_sem];repeat(with_reducible refine oA ?_)
  refine hK4 _ ?_;refine A5 ?_;refine B4 (ι:={ m:Nat // m≤ns.length }) (fun k=>⟨[zz,zz,zz,.c (.po 148 0),zz,.c (.ow 9001),.c (.ow 9002),zz,zz,zz,zz,zz,zz,zz,zz,zz,.c (.sc (.int .i64 (ns.length))),.c (.sc (.int .i64 (k.1))),zz,zz,zz,zz,zz,zz,zz,zz,zz,zz,zz,zz,zz,zz,zz,zz,zz,zz,zz],[(30,.box [.rd [] 26 ((.row 2 (.int .i64))) (ts),.rd [] 56 ((.prod (.int .i64) (.prod (.int .i64) (.prod (.int .i64) (.row 2 (.int .i64)))))) (ns),.rd [] 2 (.int .i64) (os)]),(148,.box [.fn 37 [30]]),(9001,.row 2 (.int .i64) (A0W (C3 (J7 ts ns)) ns.length k.1) []),(9002,.row 3 (.int .i64) (J5 (C3 (J7 ts ns)) k.1) [])]⟩) (fun k=>ns.length - k.1) ⟨0,by simp⟩ ?_ ?_
  ·
   refine oK ?_;simp (maxSteps:=2000000)only[go_sem];all_goals((repeat' refine And.intro ?_ ?_)<;>first|rfl|(rw[hlen];done)|(rw[hlen];simp[A0W,E1,J5];done)|(simp[A0W,E1,J5,hlen];done)|(congr 1;done))
  rintro⟨m,hm⟩ K5 hL5
  have hok:DivOk (C3 (J7 ts ns)) m (E1 (C3 (J7 ts ns)) m):=Y5 _ m
  have hol:(A0W (C3 (J7 ts ns)) ns.length m).length=ns.length:=B3S hok.len hm
  have hfl:=hok.lt
  have hfz:∀k∈J5 (C3 (J7 ts ns)) m,0≤k∧k < (ns.length:Int):=fun k hk=>by
    obtain⟨q,hq,rfl⟩:=List.mem_map.1 hk
    obtain⟨c,hc9,rfl⟩:=List.mem_iff_getElem.1 hq
    have:=hfl c hc9
    rw[List.getD_eq_getElem?_getD,List.getElem?_eq_getElem hc9] at this
    simp only[Option.getD_some] at this
    omega
  have hfml:(J5 (C3 (J7 ts ns)) m).length≤m:=by rw[A2G];exact Z7 _ m
  obtain⟨FZ,hFZ⟩:∃FZ,A9P (fun k=>(C3 (J7 ts ns)) (Int.toNat k) m) (J5 (C3 (J7 ts ns)) m)=FZ:=⟨_,rfl⟩
  have hFE:A4E (C3 (J7 ts ns)) m=FZ:=hFZ
  have hsetH:0≤FZ→m < ns.length→(A0W (C3 (J7 ts ns)) ns.length m).set m FZ=A0W (C3 (J7 ts ns)) ns.length (m+1):=fun h hm=>A5J hok.len hm (by rw[←hFE] at h ⊢;exact(A7I h).1)
  have hsetN:FZ < 0→m < ns.length→(A0W (C3 (J7 ts ns)) ns.length m).set m ((J5 (C3 (J7 ts ns)) m).length:Int)=A0W (C3 (J7 ts ns)) ns.length (m+1):=fun h hm=>A5J hok.len hm (by rw[←hFE] at h;exact(A7F h).1)
  have hfsH:0≤FZ→J5 (C3 (J7 ts ns)) (m+1)=J5 (C3 (J7 ts ns)) m:=fun h=>by rw[←hFE] at h;exact(A7I h).2
  have hfsN:FZ < 0→J5 (C3 (J7 ts ns)) (m+1)=J5 (C3 (J7 ts ns)) m++[(m:Int)]:=fun h=>by rw[←hFE] at h;exact(A7F h).2
  refine oS fun _ hK6=>?_;refine oW I8 ?_;simp only[go_sem];refine hK6 _ ?_;refine oS fun _ hK7=>?_;refine oC rfl ?_ ?_
  ·
   intro c0;have hm0:(0:Int)≤(m:Int):=by omega
   have hm1:(m:Int) < (ns.length:Int):=by omega
   refine A3 ?_;simp only[go_sem];refine hK7 _ ?_;refine oS fun _ hK8=>?_;refine A5 ?_;refine oS fun _ hK9=>?_;refine oW I8 ?_;simp only[go_sem];repeat(with_reducible refine oA ?_)
   refine hK9 _ ?_;refine oS fun _ hK10=>?_;refine oW I8 ?_;simp only[hFZ,go_sem];repeat(with_reducible first|refine oA ?_|refine And.intro (by first|exact⟨hU,hm0,hm1,hfz⟩) ?_)
   refine hK10 _ ?_;refine oS fun _ hK11=>?_;refine oS fun _ hK12=>?_;refine oW I8 ?_;simp only[go_sem];refine hK12 _ ?_;refine oC rfl ?_ ?_
   ·
    intro c1;refine oS fun _ hK13=>?_;refine oW I8 ?_;simp only[go_sem];refine hK13 _ ?_;refine oW I8 ?_;simp (maxSteps:=2000000)only[List.nodup_nil,go_sem];repeat(with_reducible first|refine oA ?_|refine And.intro (by first|omega) ?_)
    refine hK11 _ ?_;refine oW I8 ?_;simp (maxSteps:=2000000)only[List.nodup_nil,go_sem];repeat(with_reducible first|refine oA ?_|refine And.intro (by first|exact⟨by omega,by omega⟩|omega) ?_)
    refine hK8 _ ?_;refine oW I8 ?_;simp only[go_sem];refine hL5 ⟨m+1,by omega⟩ _ (oK ?_) ?_
    ·
     simp (maxSteps:=2000000)only[go_sem];all_goals((repeat' refine And.intro ?_ ?_)<;>first|rfl|exact wk (by omega)|exact hsetH (by omega) (by omega)|exact hsetN (by omega) (by omega)|exact(hfsH (by omega)).symm|exact(hfsN (by omega)).symm|(congr 1;done))
    ·
     first|(simp only[];omega)|omega|(simp;omega)
   intro c1;refine A3 ?_;simp only[go_sem];refine hK11 _ ?_;refine oW I8 ?_;simp (maxSteps:=2000000)only[List.nodup_nil,go_sem];repeat(with_reducible first|refine oA ?_|refine And.intro (by first|exact⟨by omega,by omega⟩|omega) ?_)
   refine hK8 _ ?_;refine oW I8 ?_;simp only[go_sem];refine hL5 ⟨m+1,by omega⟩ _ (oK ?_) ?_
   ·
    simp (maxSteps:=2000000)only[go_sem];all_goals((repeat' refine And.intro ?_ ?_)<;>first|rfl|exact wk (by omega)|exact hsetH (by omega) (by omega)|exact hsetN (by omega) (by omega)|exact(hfsH (by omega)).symm|exact(hfsN (by omega)).symm|(congr 1;done))
   ·
    first|(simp only[];omega)|omega|(simp;omega)
  intro c0;refine C2 ?_;simp only[go_sem];refine hK3 _ ?_;refine oS fun _ hK14=>?_;refine oW I8 ?_;simp only[go_sem];refine hK14 _ ?_;refine A2 ?_;simp only[hres,go_sem];first|exact oG|(refine⟨oG,?_⟩;(repeat' refine And.intro ?_ ?_)<;>first|rfl|(rw[B40 (by omega),show m=ns.length by omega])|(congr 1;done))
def A5t:F8:=fun f=>if f=36 then some (.g A0B) else A7f f
theorem X3:B8 Tryz.prog A5t:=a8 B4u (B6 Tryz.func36 rfl (by decide)) I8
attribute [go_sem] A5t A0B
end Go.Proofs.YtflobmmbhaofbaaGreat
