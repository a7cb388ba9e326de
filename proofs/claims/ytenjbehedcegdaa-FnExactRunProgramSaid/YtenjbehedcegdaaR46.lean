/-
  Texts of this claim, joined (part 46). No condition beyond those of the theorems.
-/
import Derived.Test.YtenjbehedcegdaaR06
namespace Go.Proofs.Ytenjbehedcegdaa
open Go.RowKit
set_option linter.unusedSimpArgs false
set_option linter.unusedVariables false
set_option maxRecDepth 100000
set_option maxHeartbeats 8000000
def K_isNode:Con:=⟨[.val ((.prod (.int .i64) (.prod (.int .i64) (.prod (.int .i64) (.row 2 (.int .i64)))))),.val (.int .i64)],[⟨.bool,true⟩],fun _=>True,fun x=>nodeB x.1 x.2.1⟩
theorem isNode_ok:PureT Try.prog 77 K_isNode:=by
  refine pure_of_body Try.func77 rfl ?_
  have hres:Try.f77.results.toList=[.tmp 4]:=rfl
  rintro⟨⟨(kd:Int),(a:Int),(bb:Int),(fr:List Int)⟩,(tb:Int),_⟩ hc hL
  simp only[K_isNode,go_sem] at hL
  simp only[K_isNode,St.init,St.initG,Try.ntmps77,go_sem] 
  refine oS fun _ hK1=>?_
  refine oW T_kinds_ok ?_
  simp only[go_sem]
  refine hK1 _ ?_
  refine oS fun _ hK2=>?_
  refine oS fun _ hK3=>?_
  refine oW T_kinds_ok ?_
  simp only[go_sem]
  repeat(with_reducible refine oA ?_)
  refine hK3 _ ?_
  refine oC rfl ?_ ?_
  ·
   intro c0
   refine oS fun _ hK4=>?_
   refine oW T_kinds_ok ?_
   simp only[go_sem]
   refine hK4 _ ?_
   refine AWP_ret ?_
   simp only[hres,go_sem]
   first|exact oF|(refine⟨?_,oF⟩;clear hK1 hK2 hK3 hK4;simp_all [nodeB])
  intro c0
  refine AWP_skip ?_
  simp only[go_sem]
  refine hK2 _ ?_
  refine oS fun _ hK5=>?_
  have hk:=kindsL_at c0
  have hk1:=hk.1
  have hkl:kindsL.length=17:=rfl
  have hw:IntKind.i64.wrap (kd - 1)=kd - 1:=wrapI (by omega)
  refine oR T_kinds_ok
    [[],[],[1],[1,2],[0,1,2,3],[0,1,2,3,4],[],[0,1,2,3,4,5,6]]
    [[180],[180,292,293,294,295,296,297,298,299,300,301,302,303,304,305,306,307],[180,292,293,294,295,296,297,298,299,300,301,302,303,304,305,306,307],[180,292,293,294,295,296,297,298,299,300,301,302,303,304,305,306,307],[180],[180],[292,293,294,295,296,297,298,299,300,301,302,303,304,305,306,307],[]]
    [[292,293,294,295,296,297,298,299,300,301,302,303,304,305,306,307],[],[],[],[],[],[180],[]] (by kernel_rfl) (by kernel_rfl) (adrawR_ok (acc:=[]) ?_)
  simp (maxSteps:=2000000)only[hw,hk1,go_sem]
  repeat(with_reducible refine oD ?_)
  refine hK5 _ ?_
  refine AWP_seq_j (nodeB (kd,a,bb,fr) tb=(fr.all (fun f=>inR f 0 23) && decide ((fr.length:Int)=(kT kd).1) && (!decide (kd=13) || decide (a < tb)))) ⟨[zz,.c (.sc (.int .i64 (tb))),.c (.po 132 0),zz,zz,.c (.po 180 0),zz,zz,zz,zz,zz,zz,zz,zz,zz,zz,zz,zz,zz,zz,zz,zz,zz,zz,zz,zz,zz,zz,zz,zz,zz,zz,zz,zz,zz,zz,zz,zz,zz,zz,zz,zz,zz,zz,zz,zz,zz,zz,zz,zz,zz,zz,zz,zz,zz,zz,zz,zz,zz,zz,zz,zz,zz,zz,zz,zz,zz,zz,zz,zz,zz,zz,zz,zz,zz,zz,zz,zz,zz,zz,zz,zz,zz,zz,zz,zz,zz,zz],[(132,.box [.sc (.int .i64 (kd)),.sc (.int .i64 (a)),.sc (.int .i64 (bb)),.rd [] 2 (.int .i64) (fr)]),(180,.box [.sc (.string (kindsL.getD (kd - 1).toNat (ByteArray.empty,0,0,0,false,false)).1),.sc (.int .i64 ((kT kd).1)),.sc (.int .i64 ((kT kd).2.1)),.sc (.int .i64 ((kT kd).2.2.1)),.sc (.bool (kT kd).2.2.2.1),.sc (.bool (kT kd).2.2.2.2)])]⟩ ?_ fun _ hK6=>?_
  ·
   intro hN
   refine oS fun _ hK7=>?_
   refine oS fun _ hK8=>?_
   refine oW T_kinds_ok ?_
   simp only[go_sem]
   repeat(with_reducible refine oA ?_)
   refine hK8 _ ?_
   refine AWP_block ?_
   refine AWP_loop_k (ι:={ k:Nat // k≤fr.length∧(fr.take k).all (fun f=>inR f 0 23)=true }) (fun k=>⟨[zz,.c (.sc (.int .i64 (tb))),.c (.po 132 0),zz,zz,.c (.po 180 0),zz,zz,zz,zz,zz,zz,zz,zz,zz,zz,zz,zz,zz,zz,zz,zz,zz,zz,zz,zz,zz,zz,zz,zz,zz,zz,zz,zz,zz,zz,zz,zz,zz,zz,zz,zz,zz,zz,zz,zz,zz,zz,zz,zz,zz,zz,zz,zz,zz,zz,zz,zz,zz,zz,zz,.c (.rd [] 2 (.int .i64) (fr)),.c (.sc (.int .i64 (fr.length))),.c (.sc (.int .i64 (k.1))),zz,zz,zz,zz,zz,zz,zz,zz,zz,zz,zz,zz,zz,zz,zz,zz,zz,zz,zz,zz,zz,zz,zz,zz],[(132,.box [.sc (.int .i64 (kd)),.sc (.int .i64 (a)),.sc (.int .i64 (bb)),.rd [] 2 (.int .i64) (fr)]),(180,.box [.sc (.string (kindsL.getD (kd - 1).toNat (ByteArray.empty,0,0,0,false,false)).1),.sc (.int .i64 ((kT kd).1)),.sc (.int .i64 ((kT kd).2.1)),.sc (.int .i64 ((kT kd).2.2.1)),.sc (.bool (kT kd).2.2.2.1),.sc (.bool (kT kd).2.2.2.2)])]⟩) (fun k=>fr.length - k.1) ⟨0,by simp⟩ ?_ ?_
   ·
    refine oK ?_
    simp (maxSteps:=2000000)only[go_sem]
    all_goals(first|rfl|((repeat' refine And.intro ?_ ?_)<;>first|rfl|simp))
   rintro⟨k,hk,hp⟩ K9 hL9
   refine oS fun _ hK10=>?_
   refine oW T_kinds_ok ?_
   simp only[go_sem]
   refine hK10 _ ?_
   refine oS fun _ hK11=>?_
   refine oC rfl ?_ ?_
   ·
    intro c2
    refine AWP_skip ?_
    simp only[go_sem]
    refine hK11 _ ?_
    refine oS fun _ hK12=>?_
    refine AWP_block ?_
    refine oS fun _ hK13=>?_
    refine oW T_kinds_ok ?_
    simp only[go_sem]
    repeat(with_reducible refine oA ?_)
    refine hK13 _ ?_
    refine oS fun _ hK14=>?_
    refine oW T_kinds_ok ?_
    simp only[go_sem]
    repeat(with_reducible refine oA ?_)
    refine hK14 _ ?_
    refine oC rfl ?_ ?_
    ·
     intro c3
     refine oS fun _ hK15=>?_
     refine oW T_kinds_ok ?_
     simp only[go_sem]
     refine hK15 _ ?_
     refine AWP_ret ?_
     simp only[hres,go_sem]
     first|exact oF|(refine⟨?_,oF⟩;rw[hN,all_stop (k:=k) (d:=0) (by omega) (by first|assumption|(clear hK1 hK2 hK3 hK5 hK7 hK8 hL9 hK10 hK11 hK12 hK13 hK14 hK15;simp_all))];rfl)
    intro c3
    refine AWP_skip ?_
    simp only[go_sem]
    refine hK12 _ ?_
    refine oW T_kinds_ok ?_
    simp only[go_sem]
    refine hL9 ⟨k+1,by omega,all_next (d:=0) (by omega) hp (by first|assumption|(clear hK1 hK2 hK3 hK5 hK7 hK8 hL9 hK10 hK11 hK12 hK13 hK14;simp_all))⟩ _ (oK ?_) ?_
    ·
     simp (maxSteps:=2000000)only[go_sem]
     first|rfl|exact wk (by omega)
    ·
     first|(simp only[];omega)|omega|(simp;omega)
   intro c2
   refine AWP_exit ?_
   simp only[go_sem]
   refine hK7 _ ?_
   refine oS fun _ hK16=>?_
   refine oR T_kinds_ok
     [[],[0],[0,1],[],[3],[0,1,2,3,4],[0,1,2,3,4,5],[0,1,2,3,4,5,6],[0,1,2,3,4,5,6,7],[0,1,2,3,4,5,6,7,8],[0,1,2,3,4,5,6,7,8,9],[0,1,2,3,4,5,6,7,8,9,10],[0,1,2,3,4,5,6,7,8,9,10,11],[0,1,2,3,4,5,6,7,8,9,10],[0,1,2,3,4,5,6,7,8,9,10,11,12,13],[0,1,2,3,4,5,6,7,8,9,10,11,12,13,14],[0,1,2,3,4,5,6,7,8,9,10,11,12,13,14,15],[0,1,2,3,4,5,6,7,8,9,10,11,12,13,14,15,16]]
     [[],[],[],[],[],[],[],[],[],[],[],[],[],[],[],[],[],[]]
     [[],[],[],[],[],[],[],[],[],[],[],[],[],[],[],[],[],[]] (by kernel_rfl) (by kernel_rfl) (adrawR_ok (acc:=[]) ?_)
   simp (maxSteps:=2000000)only[go_sem]
   repeat' (with_reducible first|refine oD ?_|refine oT (fun g12=>?_) (fun g12=>?_)|refine oE (fun g12=>?_) (fun g12=>?_))
   all_goals
    refine hK16 _ ?_
    refine AWP_ret ?_
    simp only[hres,go_sem]
    first
     | exact oF
     | refine ⟨?_, oF⟩
       have ha:=all_done hp (by omega)
       rw[hN,ha]
       clear hK1 hK2 hK3 hK5 hK7 hK8 hL9 hK10 hK11 hK16;simp_all
  refine oS fun _ hK17=>?_
  refine oW T_kinds_ok ?_
  simp (maxSteps:=2000000)only[go_sem]
  repeat' (with_reducible first|refine oA ?_|refine oT (fun g4=>?_) (fun g4=>?_)|refine oE (fun g4=>?_) (fun g4=>?_))
  all_goals
   refine hK17 _ ?_
   refine AWP_cond rfl ?_ ?_
   ·
    intro c1
    try simp only[zA,zB,zC,zD,zE,zF,zG,zH,zI] at c1
    all_goals
     refine oS fun _ hK18=>?_
     refine oW T_kinds_ok ?_
     simp only[go_sem]
     refine hK18 _ ?_
     refine AWP_ret ?_
     simp only[hres,go_sem]
     first|exact oF|(refine⟨?_,oF⟩;clear hK1 hK2 hK3 hK5 hK6 hK17 hK18;simp_all [nodeB,-Int.not_le])
   ·
    intro c1
    try simp only[zA,zB,zC,zD,zE,zF,zG,zH,zI] at c1
    all_goals
     refine AWP_skip ?_
     simp only[go_sem]
     refine hK6 _ (oK ?_) ?_
     ·
      simp (maxSteps:=2000000)only[go_sem]
      all_goals(first|rfl|((repeat' refine And.intro ?_ ?_)<;>first|rfl|exact wk (by omega)|simp))
     ·
      clear hK1 hK2 hK3 hK5 hK6 hK17;simp_all [nodeB,-Int.not_le]
def T_isNode:Tab:=fun f=>if f=77 then some (.p K_isNode) else T_kinds f
theorem T_isNode_ok:TabOk Try.prog T_isNode:=tabP isNode_ok (fnOk_of Try.func77 rfl (by decide)) T_kinds_ok
attribute [go_sem] T_isNode K_isNode
end Go.Proofs.Ytenjbehedcegdaa
