/-
  Texts of this claim, joined (part 41). No condition beyond those of the theorems.
-/
import Derived.Test.YtflobmmbhaofbaaGreatQ39
import Derived.Test.YtflobmmbhaofbaaGreatQ40
import Derived.Test.YtflobmmbhaofbaaGreatQ06
namespace Go.Proofs.YtflobmmbhaofbaaGreat
open Go.RowKit
set_option linter.unusedSimpArgs false
set_option linter.unusedVariables false
set_option maxRecDepth 100000
set_option maxHeartbeats 8000000
def A1H:Con:=⟨[.val ((.prod (.row 26 (.row 2 (.int .i64))) (.prod (.row 56 (.prod (.int .i64) (.prod (.int .i64) (.prod (.int .i64) (.row 2 (.int .i64)))))) (.row 2 (.int .i64)))))],[⟨(.row 2 (.int .i64)),true⟩],fun x=>uOk x.1.1 x.1.2.1,fun x=>H1 x.1.1 x.1.2.1⟩
theorem B51:D4 Tryz.prog 16 A1H:=by
  refine A7 Tryz.func16 rfl ?_
  have hres:Tryz.f16.results.toList=[.tmp 2]:=rfl
  rintro⟨⟨(ts:List (List Int)),(ns:List A4),(os:List Int)⟩,_⟩ hc hL
  simp only[A1H,go_sem] at hL
  simp only[A1H,St.init,St.initG,Tryz.ntmps16,go_sem] 
  have hU:uOk ts ns:=hc
  have hul:ns.length≤48:=hU.1
  refine oS fun _ hK1=>?_;refine oW X3 ?_;simp only[go_sem];refine hK1 _ ?_;refine oS fun _ hK2=>?_;refine oW X3 ?_;simp (maxSteps:=2000000)only[List.nodup_nil,go_sem];repeat(with_reducible first|refine oA ?_|refine And.intro (by first|exact⟨hU,rfl⟩) ?_)
  refine hK2 _ ?_;refine A5 ?_;refine B4 (ι:={ j:Nat // ∀q,q < j→M4 ts ns (q+1)≠M4 ts ns q }) (fun k=>⟨[zz,.c (.po 116 0),zz,.c (.po 148 0),zz,zz,zz,zz,zz,zz,zz,zz,zz,zz,zz,zz],[(116,.box [.rd [] 26 ((.row 2 (.int .i64))) (ts),.rd [] 56 ((.prod (.int .i64) (.prod (.int .i64) (.prod (.int .i64) (.row 2 (.int .i64)))))) (ns),.rd [] 2 (.int .i64) (os)]),(148,.box [.ow 9001]),(9001,.row 2 (.int .i64) (M4 ts ns k.1) [])]⟩) (fun k=>ns.length - k.1) ⟨0,fun q hq=>absurd hq (Nat.not_lt_zero _)⟩ ?_ ?_
  ·
   refine oK ?_;simp (maxSteps:=2000000)only[go_sem];all_goals((repeat' refine And.intro ?_ ?_)<;>first|rfl|(congr 1;done))
  rintro⟨j,hj⟩ K3 hL3
  have hcl:(M4 ts ns j).length=ns.length:=i9 j
  have hjn:j≤ns.length:=Nat.le_trans (A1I j hj) (A5N j)
  have hsx:(E1 (C3 (Q6 ts ns (M4 ts ns j))) ns.length).1=M4 ts ns (j+1):=rfl
  refine A5 ?_;refine oS fun _ hK4=>?_;refine oW B1i ?_;simp only[go_sem];repeat(with_reducible first|refine oA ?_|refine And.intro (by first|exact⟨hU,hcl,rfl⟩|exact⟨hU,hcl⟩) ?_)
  refine hK4 _ ?_;refine oS fun _ hK5=>?_;refine oS fun _ hK6=>?_;refine oW X3 ?_;simp only[hsx,go_sem];repeat(with_reducible refine oA ?_)
  refine hK6 _ ?_;refine oC rfl ?_ ?_
  ·
   intro c0;have hst:M4 ts ns (j+1)=M4 ts ns j:=B9k (by assumption)
   refine oS fun _ hK7=>?_;refine oW X3 ?_;simp only[go_sem];repeat(with_reducible refine oA ?_)
   refine hK7 _ ?_;refine A2 ?_;simp only[hres,go_sem];first|exact oF|(refine⟨?_,oF⟩;exact(B26 hjn hst).symm)
  intro c0
  have hne:M4 ts ns (j+1)≠M4 ts ns j:=fun e=>by
    have h9:eqD (M4 ts ns (j+1)) (M4 ts ns j)=false:=by assumption
    rw[e,B6u] at h9;cases h9
  refine A3 ?_;simp only[go_sem];refine hK5 _ ?_;refine oW X3 ?_;simp only[go_sem];repeat(with_reducible refine oA ?_)
  refine hL3 ⟨j+1,fun q hq=>by rcases Nat.lt_succ_iff_lt_or_eq.1 hq with h|h;exact hj q h;subst h;exact hne⟩ _ (oK ?_) ?_
  ·
   simp (maxSteps:=2000000)only[go_sem];all_goals((repeat' refine And.intro ?_ ?_)<;>first|rfl|(congr 1;done))
  ·
   have:=A1I (ts:=ts) (ns:=ns) (j+1) (fun q hq=>by rcases Nat.lt_succ_iff_lt_or_eq.1 hq with h|h;exact hj q h;subst h;exact hne)
   have:=A5N (ts:=ts) (ns:=ns) (j+1)
   simp only[];omega
def A6e:F8:=fun f=>if f=16 then some (.p A1H) else A5t f
theorem B1S:B8 Tryz.prog A6e:=F9 B51 (B6 Tryz.func16 rfl (by decide)) X3
attribute [go_sem] A6e A1H
set_option maxRecDepth 100000
set_option maxHeartbeats 8000000
def A2s:Con:=⟨[.val ((.prod (.int .i64) (.prod (.int .i64) (.prod (.int .i64) (.row 2 (.int .i64)))))),.val (.int .i64)],[⟨.bool,true⟩],fun _=>True,fun x=>N5 x.1 x.2.1⟩
theorem B82:D4 Tryz.prog 87 A2s:=by
  refine A7 Tryz.func87 rfl ?_
  have hres:Tryz.f87.results.toList=[.tmp 4]:=rfl
  rintro⟨⟨(kd:Int),(a:Int),(bb:Int),(fr:List Int)⟩,(tb:Int),_⟩ hc hL
  simp only[A2s,go_sem] at hL
  simp only[A2s,St.init,St.initG,Tryz.ntmps87,go_sem] 
  refine oS fun _ hK1=>?_;refine oW D5 ?_;simp only[go_sem];refine hK1 _ ?_;refine oS fun _ hK2=>?_;refine oS fun _ hK3=>?_;refine oW D5 ?_;simp only[go_sem];repeat(with_reducible refine oA ?_)
  refine hK3 _ ?_;refine oC rfl ?_ ?_
  ·
   intro c0;refine oS fun _ hK4=>?_;refine oW D5 ?_;simp only[go_sem];refine hK4 _ ?_;refine A2 ?_;simp only[hres,go_sem];first|exact oF|(refine⟨?_,oF⟩;clear hK1 hK2 hK3 hK4;simp_all [N5])
  intro c0;refine A3 ?_;simp only[go_sem];refine hK2 _ ?_;refine oS fun _ hK5=>?_;have hk:=B7g c0
  have hk1:=hk.1
  have hkl:A5p.length=17:=rfl
  have hw:IntKind.i64.wrap (kd - 1)=kd - 1:=G9 (by omega)
  refine oR D5
    [[],[],[1],[1,2],[0,1,2,3],[0,1,2,3,4],[],[0,1,2,3,4,5,6]]
    [[180],[180,292,293,294,295,296,297,298,299,300,301,302,303,304,305,306,307],[180,292,293,294,295,296,297,298,299,300,301,302,303,304,305,306,307],[180,292,293,294,295,296,297,298,299,300,301,302,303,304,305,306,307],[180],[180],[292,293,294,295,296,297,298,299,300,301,302,303,304,305,306,307],[]]
    [[292,293,294,295,296,297,298,299,300,301,302,303,304,305,306,307],[],[],[],[],[],[180],[]] (by kernel_rfl) (by kernel_rfl) (B7 (acc:=[]) ?_)
  simp (maxSteps:=2000000)only[hw,hk1,go_sem];repeat(with_reducible refine oD ?_)
  refine hK5 _ ?_;refine N9 (N5 (kd,a,bb,fr) tb=(fr.all (fun f=>O7 f 0 23) && decide ((fr.length:Int)=(kT kd).1) && (!decide (kd=13) || decide (a < tb)))) ⟨[zz,.c (.sc (.int .i64 (tb))),.c (.po 132 0),zz,zz,.c (.po 180 0),zz,zz,zz,zz,zz,zz,zz,zz,zz,zz,zz,zz,zz,zz,zz,zz,zz,zz,zz,zz,zz,zz,zz,zz,zz,zz,zz,zz,zz,zz,zz,zz,zz,zz,zz,zz,zz,zz,zz,zz,zz,zz,zz,zz,zz,zz,zz,zz,zz,zz,zz,zz,zz,zz,zz,zz,zz,zz,zz,zz,zz,zz,zz,zz,zz,zz,zz,zz,zz,zz,zz,zz,zz,zz,zz,zz,zz,zz,zz,zz,zz,zz],[(132,.box [.sc (.int .i64 (kd)),.sc (.int .i64 (a)),.sc (.int .i64 (bb)),.rd [] 2 (.int .i64) (fr)]),(180,.box [.sc (.string (A5p.getD (kd - 1).toNat (ByteArray.empty,0,0,0,false,false)).1),.sc (.int .i64 ((kT kd).1)),.sc (.int .i64 ((kT kd).2.1)),.sc (.int .i64 ((kT kd).2.2.1)),.sc (.bool (kT kd).2.2.2.1),.sc (.bool (kT kd).2.2.2.2)])]⟩ ?_ fun _ hK6=>?_
  ·
   intro hN;refine oS fun _ hK7=>?_;refine oS fun _ hK8=>?_;refine oW D5 ?_;simp only[go_sem];repeat(with_reducible refine oA ?_)
   refine hK8 _ ?_;refine A5 ?_;refine B4 (ι:={ k:Nat // k≤fr.length∧(fr.take k).all (fun f=>O7 f 0 23)=true }) (fun k=>⟨[zz,.c (.sc (.int .i64 (tb))),.c (.po 132 0),zz,zz,.c (.po 180 0),zz,zz,zz,zz,zz,zz,zz,zz,zz,zz,zz,zz,zz,zz,zz,zz,zz,zz,zz,zz,zz,zz,zz,zz,zz,zz,zz,zz,zz,zz,zz,zz,zz,zz,zz,zz,zz,zz,zz,zz,zz,zz,zz,zz,zz,zz,zz,zz,zz,zz,zz,zz,zz,zz,zz,.c (.rd [] 2 (.int .i64) (fr)),.c (.sc (.int .i64 (fr.length))),.c (.sc (.int .i64 (k.1))),zz,zz,zz,zz,zz,zz,zz,zz,zz,zz,zz,zz,zz,zz,zz,zz,zz,zz,zz,zz,zz,zz,zz,zz],[(132,.box [.sc (.int .i64 (kd)),.sc (.int .i64 (a)),.sc (.int .i64 (bb)),.rd [] 2 (.int .i64) (fr)]),(180,.box [.sc (.string (A5p.getD (kd - 1).toNat (ByteArray.empty,0,0,0,false,false)).1),.sc (.int .i64 ((kT kd).1)),.sc (.int .i64 ((kT kd).2.1)),.sc (.int .i64 ((kT kd).2.2.1)),.sc (.bool (kT kd).2.2.2.1),.sc (.bool (kT kd).2.2.2.2)])]⟩) (fun k=>fr.length - k.1) ⟨0,by simp⟩ ?_ ?_
   ·
    refine oK ?_;simp (maxSteps:=2000000)only[go_sem];all_goals(first|rfl|((repeat' refine And.intro ?_ ?_)<;>first|rfl|simp))
   rintro⟨k,hk,hp⟩ K9 hL9
   refine oS fun _ hK10=>?_;refine oW D5 ?_;simp only[go_sem];refine hK10 _ ?_;refine oS fun _ hK11=>?_;refine oC rfl ?_ ?_
   ·
    intro c2;refine A3 ?_;simp only[go_sem];refine hK11 _ ?_;refine oS fun _ hK12=>?_;refine A5 ?_;refine oS fun _ hK13=>?_;refine oW D5 ?_;simp only[go_sem];repeat(with_reducible refine oA ?_)
    refine hK13 _ ?_;refine oS fun _ hK14=>?_;refine oW D5 ?_;simp only[go_sem];repeat(with_reducible refine oA ?_)
    refine hK14 _ ?_;refine oC rfl ?_ ?_
    ·
     intro c3;refine oS fun _ hK15=>?_;refine oW D5 ?_;simp only[go_sem];refine hK15 _ ?_;refine A2 ?_;simp only[hres,go_sem];first|exact oF|(refine⟨?_,oF⟩;rw[hN,W7 (k:=k) (d:=0) (by omega) (by first|assumption|(clear hK1 hK2 hK3 hK5 hK7 hK8 hL9 hK10 hK11 hK12 hK13 hK14 hK15;simp_all))];rfl)
    intro c3;refine A3 ?_;simp only[go_sem];refine hK12 _ ?_;refine oW D5 ?_;simp only[go_sem];refine hL9 ⟨k+1,by omega,Q8 (d:=0) (by omega) hp (by first|assumption|(clear hK1 hK2 hK3 hK5 hK7 hK8 hL9 hK10 hK11 hK12 hK13 hK14;simp_all))⟩ _ (oK ?_) ?_
    ·
     simp (maxSteps:=2000000)only[go_sem];first|rfl|exact wk (by omega)
    ·
     first|(simp only[];omega)|omega|(simp;omega)
   intro c2;refine C2 ?_;simp only[go_sem];refine hK7 _ ?_;refine oS fun _ hK16=>?_
   refine oR D5
     [[],[0],[0,1],[],[3],[0,1,2,3,4],[0,1,2,3,4,5],[0,1,2,3,4,5,6],[0,1,2,3,4,5,6,7],[0,1,2,3,4,5,6,7,8],[0,1,2,3,4,5,6,7,8,9],[0,1,2,3,4,5,6,7,8,9,10],[0,1,2,3,4,5,6,7,8,9,10,11],[0,1,2,3,4,5,6,7,8,9,10],[0,1,2,3,4,5,6,7,8,9,10,11,12,13],[0,1,2,3,4,5,6,7,8,9,10,11,12,13,14],[0,1,2,3,4,5,6,7,8,9,10,11,12,13,14,15],[0,1,2,3,4,5,6,7,8,9,10,11,12,13,14,15,16]]
     [[],[],[],[],[],[],[],[],[],[],[],[],[],[],[],[],[],[]]
     [[],[],[],[],[],[],[],[],[],[],[],[],[],[],[],[],[],[]] (by kernel_rfl) (by kernel_rfl) (B7 (acc:=[]) ?_)
   simp (maxSteps:=2000000)only[go_sem];repeat' (with_reducible first|refine oD ?_|refine oT (fun g12=>?_) (fun g12=>?_)|refine oE (fun g12=>?_) (fun g12=>?_))
   all_goals
    refine hK16 _ ?_;refine A2 ?_;simp only[hres,go_sem]
    first
     | exact oF
     | refine ⟨?_, oF⟩
       have ha:=P2 hp (by omega)
       rw[hN,ha];clear hK1 hK2 hK3 hK5 hK7 hK8 hL9 hK10 hK11 hK16;simp_all
  refine oS fun _ hK17=>?_;refine oW D5 ?_;simp (maxSteps:=2000000)only[go_sem];repeat' (with_reducible first|refine oA ?_|refine oT (fun g4=>?_) (fun g4=>?_)|refine oE (fun g4=>?_) (fun g4=>?_))
  all_goals
   refine hK17 _ ?_;refine D2 rfl ?_ ?_
   ·
    intro c1;try simp only[zA,zB,zC,zD,zE,zF,zG,zH,zI] at c1
    all_goals
     refine oS fun _ hK18=>?_;refine oW D5 ?_;simp only[go_sem];refine hK18 _ ?_;refine A2 ?_;simp only[hres,go_sem];first|exact oF|(refine⟨?_,oF⟩;clear hK1 hK2 hK3 hK5 hK6 hK17 hK18;simp_all [N5,-Int.not_le])
   ·
    intro c1;try simp only[zA,zB,zC,zD,zE,zF,zG,zH,zI] at c1
    all_goals
     refine A3 ?_;simp only[go_sem];refine hK6 _ (oK ?_) ?_
     ·
      simp (maxSteps:=2000000)only[go_sem];all_goals(first|rfl|((repeat' refine And.intro ?_ ?_)<;>first|rfl|exact wk (by omega)|simp))
     ·
      clear hK1 hK2 hK3 hK5 hK6 hK17;simp_all [N5,-Int.not_le]
def A7p:F8:=fun f=>if f=87 then some (.p A2s) else y7 f
theorem B2g:B8 Tryz.prog A7p:=F9 B82 (B6 Tryz.func87 rfl (by decide)) D5
attribute [go_sem] A7p A2s
end Go.Proofs.YtflobmmbhaofbaaGreat
