/-
  Texts of this claim, joined (part 37). No condition beyond those of the theorems.
-/
import Derived.Test.YtenjbehedcegdaaR22
import Derived.Test.YtenjbehedcegdaaR35
import Derived.Test.YtenjbehedcegdaaR36
import Derived.Test.YtenjbehedcegdaaR30
namespace Go.Proofs.Ytenjbehedcegdaa
open Go.RowKit
set_option linter.unusedSimpArgs false
set_option linter.unusedVariables false
set_option maxRecDepth 100000
set_option maxHeartbeats 16000000
def T_mHpC0:Tab:=fun f=>match T_l11Frame f with
 | some k=>some k
 | none=>T_l08Signals f
theorem T_mHpC0_ok:TabOk Try.prog T_mHpC0:=tabM T_l11Frame_ok T_l08Signals_ok
attribute [go_sem] T_mHpC0 T0
def K_specRun:Con:=⟨[.val ((.prod (.int .i64) (.prod (.int .i64) (.prod (.row 24 (.row 2 (.int .i64))) (.prod (.row 49 (.prod (.int .i64) (.prod (.int .i64) (.prod (.int .i64) (.prod (.int .i64) (.prod (.row 2 (.int .i64)) (.int .i64))))))) (.row 2 (.int .i64))))))),.val ((.row 24 (.row 2 (.int .i64)))),.val (.int .i64)],[⟨(.row 24 (.row 2 (.int .i64))),true⟩,⟨.int .i64,true⟩],fun _=>True,fun x=>runR x.1 x.2.1 x.2.2.1⟩
theorem specRun_ok:PureT Try.prog 6 K_specRun:=by
  refine pure_of_body Try.func6 rfl ?_
  have hres:Try.f6.results.toList=[.tmp 6,.tmp 7]:=rfl
  rintro⟨⟨(gi:Int),(gr:Int),(ts:List (List Int)),(xs:List InstrD),(os:List Int)⟩,(ins:List (List Int)),(nn:Int),_⟩ hc hL
  simp only[K_specRun,go_sem] at hL
  simp only[K_specRun,St.init,St.initG,Try.ntmps6,go_sem] 
  have hx0:x0=((0,0,0,0,[],0):InstrD):=rfl
  refine oS fun _ hK1=>?_
  refine oW T_mHpC0_ok ?_
  simp only[go_sem]
  repeat(with_reducible first|refine oA ?_|refine And.intro (by first|exact hsx|exact hfc|exact hat|exact hb1|exact hb2|exact hb3|omega) ?_)
  refine hK1 _ ?_
  refine oS fun _ hK2=>?_
  refine oS fun _ hK3=>?_
  refine oW T_mHpC0_ok ?_
  simp only[go_sem]
  repeat(with_reducible first|refine oA ?_|refine And.intro (by first|exact hsx|exact hfc|exact hat|exact hb1|exact hb2|exact hb3|omega) ?_)
  refine hK3 _ ?_
  refine oC rfl ?_ ?_
  ·
   intro c0
   refine oS fun _ hK4=>?_
   refine oW T_mHpC0_ok ?_
   simp only[go_sem]
   repeat(with_reducible first|refine oA ?_|refine And.intro (by first|exact hsx|exact hfc|exact hat|exact hb1|exact hb2|exact hb3|omega) ?_)
   refine hK4 _ ?_
   refine AWP_ret ?_
   simp only[hres,go_sem]
   first|exact oF|(refine⟨?_,oF⟩;rw[runR_1 (by assumption)])
  intro c0
  have hP:progB (gi,gr,ts,xs,os)=true:=by assumption
  have hG:=progB_ok hP
  have hxl:xs.length≤48:=hG.cl
  have hol4:os.length≤4:=hG.ol
  have hr0:0≤gr:=hG.r0
  have hr24:gr≤24:=hG.r24
  have hgi:gi≤4:=hG.i4
  have hrn:(gr.toNat:Int)=gr:=Int.toNat_of_nonneg hr0
  refine AWP_skip ?_
  simp only[go_sem]
  refine hK2 _ ?_
  refine oS fun _ hK5=>?_
  refine oW T_mHpC0_ok ?_
  simp (maxSteps:=2000000)only[go_sem]
  repeat' (with_reducible first|refine oA ?_|refine And.intro (by first|exact hsx|exact hfc|exact hat|exact hb1|exact hb2|exact hb3|omega) ?_|refine oT (fun g3=>?_) (fun g3=>?_)|refine oE (fun g3=>?_) (fun g3=>?_))
  all_goals
   refine hK5 _ ?_
   refine oS fun _ hK6=>?_
   refine oS fun _ hK7=>?_
   refine oW T_mHpC0_ok ?_
   simp only[go_sem]
   repeat(with_reducible first|refine oA ?_|refine And.intro (by first|exact hsx|exact hfc|exact hat|exact hb1|exact hb2|exact hb3|omega) ?_)
   refine hK7 _ ?_
   refine AWP_block ?_
   refine AWP_loop_k (ι:={ p:Nat × Bool // p.1≤ins.length∧((decide ((ins.length:Int)=gi) && inR nn 0 4000) && (ins.take p.1).all l03B)=p.2 }) (fun k=>⟨[zz,.c (.rd [] 24 (.row 2 (.int .i64)) (ins)),.c (.sc (.int .i64 (nn))),.c (.po 148 0),zz,zz,zz,zz,.c (.sc (.bool (k.1.2))),.c (.sc (.int .i64 (k.1.1))),zz,zz,zz,zz,zz,zz,zz,zz,zz,zz,zz,zz,zz,zz,zz,zz,zz,zz,zz,zz,zz,zz,zz,zz,zz,zz,zz,zz,zz,zz,zz,zz,zz,zz,zz,zz,zz,zz,zz,zz,zz,zz,zz,zz,zz,zz,zz,zz,zz,zz,zz,zz,zz,zz,zz,zz,zz,zz,zz,zz,zz,zz,zz,zz,zz,zz,zz,zz,zz,zz,zz,zz,zz,zz,zz,zz,zz,zz,zz,zz,zz,zz,zz,zz,zz,zz,zz,zz,zz,zz,zz,zz,zz,zz,zz,zz,zz,zz,zz,zz,zz,zz,zz,zz,zz,zz,zz],[(148,.box [.sc (.int .i64 (gi)),.sc (.int .i64 (gr)),.rd [] 24 ((.row 2 (.int .i64))) ts,.rd [] 49 ((.prod (.int .i64) (.prod (.int .i64) (.prod (.int .i64) (.prod (.int .i64) (.prod (.row 2 (.int .i64)) (.int .i64))))))) xs,.rd [] 2 (.int .i64) (os)])]⟩) (fun k=>ins.length - k.1.1) ⟨(0,(decide ((ins.length:Int)=gi) && inR nn 0 4000)),by simp,by simp⟩ ?_ ?_
   ·
    refine oK ?_
    simp (maxSteps:=2000000)only[go_sem]
    all_goals((repeat' refine And.intro ?_ ?_)<;>first|rfl|exact True.intro|omega|(congr 1;done)|(simp;done)|(simp;intro h9;first|assumption|(exact absurd h9 (by assumption))))
   rintro⟨⟨k,ok⟩,hk,hp⟩ K8 hL8
   simp only at hk hp
   refine oS fun _ hK9=>?_
   refine oS fun _ hK10=>?_
   refine oW T_mHpC0_ok ?_
   simp (maxSteps:=2000000)only[go_sem]
   repeat' (with_reducible first|refine oA ?_|refine And.intro (by first|exact hsx|exact hfc|exact hat|exact hb1|exact hb2|exact hb3|omega) ?_|refine oT (fun g5=>?_) (fun g5=>?_)|refine oE (fun g5=>?_) (fun g5=>?_))
   all_goals
    refine hK10 _ ?_
    refine AWP_cond rfl ?_ ?_
    ·
     intro c1
     try simp only[zA,zB,zC,zD,zE,zF,zG,zH,zI] at c1
     all_goals
      have hok1:ok=true:=by first|assumption|(clear hK1 hK2 hK3 hK5 hK6 hK7 hL8 hK9 hK10;simp_all;done)
      refine AWP_skip ?_
      simp only[go_sem]
      refine hK9 _ ?_
      refine oS fun _ hK11=>?_
      refine AWP_block ?_
      refine oW T_mHpC0_ok ?_
      simp (maxSteps:=2000000)only[go_sem]
      repeat(with_reducible first|refine oA ?_|refine And.intro (by first|exact hsx|exact hfc|exact hat|exact hb1|exact hb2|exact hb3|omega) ?_)
      refine hK11 _ ?_
      refine oW T_mHpC0_ok ?_
      simp only[go_sem]
      repeat(with_reducible first|refine oA ?_|refine And.intro (by first|exact hsx|exact hfc|exact hat|exact hb1|exact hb2|exact hb3|omega) ?_)
      refine hL8 ⟨(k+1,l03B (ins.getD k [])),by show k+1≤ins.length;omega,sig_next (hp.trans hok1) (by omega)⟩ _ (oK ?_) ?_
      ·
       simp (maxSteps:=2000000)only[go_sem]
       all_goals((repeat' refine And.intro ?_ ?_)<;>first|rfl|exact True.intro|exact wk (by omega)|omega|(rw[wrapI (by omega)];omega)|(congr 1;done)|(simp;done))
      ·
       first|(simp only[];omega)|omega|(simp;omega)
    ·
     intro c1
     try simp only[zA,zB,zC,zD,zE,zF,zG,zH,zI] at c1
     all_goals
      have hfin:((decide ((ins.length:Int)=gi) && inR nn 0 4000) && ins.all l03B)=ok:=sig_fin hp (by first|(left;omega)|(right;first|assumption|(clear hK1 hK2 hK3 hK5 hK6 hK7 hL8 hK9 hK10;simp_all;done)))
      refine AWP_exit ?_
      simp only[go_sem]
      refine hK6 _ ?_
      refine oS fun _ hK12=>?_
      refine oS fun _ hK13=>?_
      refine oW T_mHpC0_ok ?_
      simp only[go_sem]
      repeat(with_reducible first|refine oA ?_|refine And.intro (by first|exact hsx|exact hfc|exact hat|exact hb1|exact hb2|exact hb3|omega) ?_)
      refine hK13 _ ?_
      refine AWP_cond rfl ?_ ?_
      ·
       intro c2
       try simp only[zA,zB,zC,zD,zE,zF,zG,zH,zI] at c2
       all_goals
        have hokf:ok=false:=by first|assumption|(clear hK1 hK2 hK3 hK5 hK6 hK7 hL8 hK9 hK10 hK12 hK13;simp_all;done)
        have hsig:(decide ((ins.length:Int)=gi) && ins.all l03B && inR nn 0 4000)=false:=sig_com (hfin.trans hokf)
        refine oS fun _ hK14=>?_
        refine oW T_mHpC0_ok ?_
        simp only[go_sem]
        repeat(with_reducible first|refine oA ?_|refine And.intro (by first|exact hsx|exact hfc|exact hat|exact hb1|exact hb2|exact hb3|omega) ?_)
        refine hK14 _ ?_
        refine AWP_ret ?_
        simp only[hres,go_sem]
        first|exact oF|(refine⟨?_,oF⟩;rw[runR_2 hP hsig])
      ·
       intro c2
       try simp only[zA,zB,zC,zD,zE,zF,zG,zH,zI] at c2
       all_goals
        have hokt:ok=true:=by first|assumption|(clear hK1 hK2 hK3 hK5 hK6 hK7 hL8 hK9 hK10 hK12 hK13;simp_all;done)
        have hsig:(decide ((ins.length:Int)=gi) && ins.all l03B && inR nn 0 4000)=true:=sig_com (hfin.trans hokt)
        have hC:RunC (gi,gr,ts,xs,os) ins nn:=RunC.of hP hsig
        obtain⟨hn1,hn2⟩:=hC.nr
        have hil:(ins.length:Int)=gi:=hC.ln
        refine AWP_skip ?_
        simp only[go_sem]
        refine hK12 _ ?_
        refine oS fun _ hK15=>?_
        refine oW T_mHpC0_ok ?_
        simp only[List.nodup_cons,List.nodup_nil,List.not_mem_nil,not_false_eq_true,go_sem]
        repeat(with_reducible first|refine oA ?_|refine And.intro (by first|exact hsx|exact hfc|exact hat|exact hb1|exact hb2|exact hb3|omega) ?_)
        refine hK15 _ ?_
        refine oS fun _ hK16=>?_
        refine oS fun _ hK17=>?_
        refine oW T_mHpC0_ok ?_
        simp only[go_sem]
        repeat(with_reducible first|refine oA ?_|refine And.intro (by first|exact hsx|exact hfc|exact hat|exact hb1|exact hb2|exact hb3|omega) ?_)
        refine hK17 _ ?_
        refine AWP_block ?_
        refine AWP_loop_k (ι:={ k:Nat // k≤xs.length }) (fun k=>⟨[zz,.c (.rd [] 24 (.row 2 (.int .i64)) (ins)),.c (.sc (.int .i64 (nn))),.c (.po 148 0),zz,zz,zz,zz,zz,zz,.c (.ow 9001),.c (.sc (.int .i64 (k.1))),zz,zz,zz,zz,zz,zz,zz,zz,zz,zz,zz,zz,zz,zz,zz,zz,zz,zz,zz,zz,zz,zz,zz,zz,zz,zz,zz,zz,zz,zz,zz,zz,zz,zz,zz,zz,zz,zz,zz,zz,zz,zz,zz,zz,zz,zz,zz,zz,zz,zz,zz,zz,zz,zz,zz,zz,zz,zz,zz,zz,zz,zz,zz,zz,zz,zz,zz,zz,zz,zz,zz,zz,zz,zz,zz,zz,zz,zz,zz,zz,zz,zz,zz,zz,zz,zz,zz,zz,zz,zz,zz,zz,zz,zz,zz,zz,zz,zz,zz,zz,zz,zz,zz,zz,zz],[(148,.box [.sc (.int .i64 (gi)),.sc (.int .i64 (gr)),.rd [] 24 ((.row 2 (.int .i64))) ts,.rd [] 49 ((.prod (.int .i64) (.prod (.int .i64) (.prod (.int .i64) (.prod (.int .i64) (.prod (.row 2 (.int .i64)) (.int .i64))))))) xs,.rd [] 2 (.int .i64) (os)]),(9001,.tree 24 (.row 2 (.int .i64)) ((xs.take k.1).map startI) none)]⟩) (fun k=>xs.length - k.1) ⟨0,by simp⟩ ?_ ?_
        ·
         refine oK ?_
         simp (maxSteps:=2000000)only[go_sem]
         all_goals((repeat' refine And.intro ?_ ?_)<;>first|rfl|exact True.intro|omega|(congr 1;done)|(simp;done)|(simp;intro h9;first|assumption|(exact absurd h9 (by assumption))))
        rintro⟨k,hk⟩ K18 hL18
        have hsl:((xs.take k).map startI).length=k:=by rw[List.length_map,List.length_take];omega
        have hs8:(((xs.take k).map startI).length+1) * 24≤140737488355328:=by omega
        have hsn:k < xs.length→_:=fun h=>map_nextI h
        have hsx0:k < xs.length→(¬(xs.getD k ((0,0,0,0,[],0):InstrD)).1=18→startC (nodeX (xs.getD k ((0,0,0,0,[],0):InstrD)))):=fun h=>ins_start (hG.ins k h).1
        refine oS fun _ hK19=>?_
        refine oS fun _ hK20=>?_
        refine oW T_mHpC0_ok ?_
        simp (maxSteps:=2000000)only[go_sem]
        repeat(with_reducible first|refine oA ?_|refine And.intro (by first|exact hsx|exact hfc|exact hat|exact hb1|exact hb2|exact hb3|omega) ?_)
        refine hK20 _ ?_
        refine AWP_cond rfl ?_ ?_
        ·
         intro c3
         try simp only[zA,zB,zC,zD,zE,zF,zG,zH,zI] at c3
         all_goals
          have hsx:=hsx0 (by omega)
          refine AWP_skip ?_
          simp only[go_sem]
          refine hK19 _ ?_
          refine oS fun _ hK21=>?_
          refine AWP_block ?_
          refine oW T_mHpC0_ok ?_
          simp (maxSteps:=2000000)only[List.nodup_cons,List.nodup_nil,List.not_mem_nil,not_false_eq_true,go_sem]
          repeat(with_reducible first|refine oA ?_|refine And.intro (by first|exact hsx|exact hs8|omega) ?_)
          refine hK21 _ ?_
          refine oW T_mHpC0_ok ?_
          simp only[go_sem]
          repeat(with_reducible first|refine oA ?_|refine And.intro (by first|exact hsx|exact hfc|exact hat|exact hb1|exact hb2|exact hb3|omega) ?_)
          refine hL18 ⟨k+1,by omega⟩ _ (oK ?_) ?_
          ·
           simp (maxSteps:=2000000)only[go_sem]
           all_goals((repeat' refine And.intro ?_ ?_)<;>first|rfl|exact wk (by omega)|(congr 1;exact hsn (by omega))|exact hsn (by omega)|(congr 1;done))
          ·
           first|(simp only[];omega)|omega|(simp;omega)
        ·
         intro c3
         try simp only[zA,zB,zC,zD,zE,zF,zG,zH,zI] at c3
         all_goals
          have hst0:(xs.take k).map startI=byI xs (runG (gi,gr,ts,xs,os) ins 0).2:=by rw[List.take_of_length_le (by omega)];exact(byI_start hG).symm
          refine AWP_exit ?_
          simp only[go_sem]
          refine hK16 _ ?_
          refine oS fun _ hK22=>?_
          refine oW T_mHpC0_ok ?_
          simp only[List.nodup_cons,List.nodup_nil,List.not_mem_nil,not_false_eq_true,hrn,go_sem]
          repeat(with_reducible first|refine oA ?_|refine And.intro (by first|exact hsx|exact hfc|exact hat|exact hb1|exact hb2|exact hb3|omega) ?_)
          refine hK22 _ ?_
          refine oS fun _ hK23=>?_
          refine oW T_mHpC0_ok ?_
          simp (maxSteps:=2000000)only[List.nodup_cons,List.nodup_nil,List.not_mem_nil,not_false_eq_true,go_sem]
          repeat(with_reducible first|refine oA ?_|refine And.intro (by first|exact hsx|exact hfc|exact hat|exact hb1|exact hb2|exact hb3|omega) ?_)
          refine hK23 _ ?_
          refine oS fun _ hK24=>?_
          refine oS fun _ hK25=>?_
          refine oW T_mHpC0_ok ?_
          simp only[go_sem]
          repeat(with_reducible first|refine oA ?_|refine And.intro (by first|exact hsx|exact hfc|exact hat|exact hb1|exact hb2|exact hb3|omega) ?_)
          refine hK25 _ ?_
          refine AWP_block ?_
          refine AWP_loop_k (ι:={ t:Nat // t≤nn.toNat }) (fun k=>⟨[zz,.c (.rd [] 24 (.row 2 (.int .i64)) (ins)),.c (.sc (.int .i64 (nn))),.c (.po 148 0),zz,zz,zz,zz,zz,zz,.c (.ow 9001),zz,.c (.ow 9002),.c (.ow 9003),.c (.sc (.int .i64 (k.1))),zz,zz,zz,zz,zz,zz,zz,zz,zz,zz,zz,zz,zz,zz,zz,zz,zz,zz,zz,zz,zz,zz,zz,zz,zz,zz,zz,zz,zz,zz,zz,zz,zz,zz,zz,zz,zz,zz,zz,zz,zz,zz,zz,zz,zz,zz,zz,zz,zz,zz,zz,zz,zz,zz,zz,zz,zz,zz,zz,zz,zz,zz,zz,zz,zz,zz,zz,zz,zz,zz,zz,zz,zz,zz,zz,zz,zz,zz,zz,zz,zz,zz,zz,zz,zz,zz,zz,zz,zz,zz,zz,zz,zz,zz,zz,zz,zz,zz,zz,zz,zz,zz],[(148,.box [.sc (.int .i64 (gi)),.sc (.int .i64 (gr)),.rd [] 24 ((.row 2 (.int .i64))) ts,.rd [] 49 ((.prod (.int .i64) (.prod (.int .i64) (.prod (.int .i64) (.prod (.int .i64) (.prod (.row 2 (.int .i64)) (.int .i64))))))) xs,.rd [] 2 (.int .i64) (os)]),(9001,.tree 24 (.row 2 (.int .i64)) (byI xs (runG (gi,gr,ts,xs,os) ins k.1).2) none),(9002,.row 2 (.int .i64) ((runG (gi,gr,ts,xs,os) ins k.1).1) []),(9003,.tree 24 (.row 2 (.int .i64)) ((runO (gi,gr,ts,xs,os) ins k.1)) none)]⟩) (fun k=>nn.toNat - k.1) ⟨0,by simp⟩ ?_ ?_
          ·
           refine oK ?_
           simp (maxSteps:=2000000)only[go_sem]
           all_goals((repeat' refine And.intro ?_ ?_)<;>first|rfl|omega|(congr 1;rw[hst0];done)|(rw[hst0];done)|(congr 1;done)|(simp[runG,runO];done))
          rintro⟨t,ht⟩ K26 hL26
          have hfr:=hC.frame (t:Int)
          have hstp:=hC.step t
          have hrf:=hC.ref t
          have hrl:(runG (gi,gr,ts,xs,os) ins t).1.length=gr.toNat:=(hC.run t).rl
          have hrl1:(runG (gi,gr,ts,xs,os) ins (t+1)).1.length=gr.toNat:=(hC.run (t+1)).rl
          have hol:(runO (gi,gr,ts,xs,os) ins t).length=os.length:=runO_len _ _ t
          have hfl:(frameAt ins (t:Int)).length=ins.length:=by simp[frameAt]
          refine oS fun _ hK27=>?_
          refine oS fun _ hK28=>?_
          refine oW T_mHpC0_ok ?_
          simp only[go_sem]
          repeat(with_reducible first|refine oA ?_|refine And.intro (by first|exact hsx|exact hfc|exact hat|exact hb1|exact hb2|exact hb3|omega) ?_)
          refine hK28 _ ?_
          refine AWP_cond rfl ?_ ?_
          ·
           intro c4
           try simp only[zA,zB,zC,zD,zE,zF,zG,zH,zI] at c4
           all_goals
            refine AWP_skip ?_
            simp only[go_sem]
            refine hK27 _ ?_
            refine oS fun _ hK29=>?_
            refine AWP_block ?_
            refine oS fun _ hK30=>?_
            refine oW T_mHpC0_ok ?_
            simp only[List.nodup_cons,List.nodup_nil,List.not_mem_nil,not_false_eq_true,go_sem]
            repeat(with_reducible first|refine oA ?_|refine And.intro (by first|exact hsx|exact hfc|exact hat|exact hb1|exact hb2|exact hb3|omega) ?_)
            refine hK30 _ ?_
            refine oS fun _ hK31=>?_
            refine oS fun _ hK32=>?_
            refine oW T_mHpC0_ok ?_
            simp only[go_sem]
            repeat(with_reducible first|refine oA ?_|refine And.intro (by first|exact hsx|exact hfc|exact hat|exact hb1|exact hb2|exact hb3|omega) ?_)
            refine hK32 _ ?_
            refine AWP_block ?_
            refine AWP_loop_k (ι:={ m:Nat // m≤ins.length }) (fun k'=>⟨[zz,.c (.rd [] 24 (.row 2 (.int .i64)) (ins)),.c (.sc (.int .i64 (nn))),.c (.po 148 0),zz,zz,zz,zz,zz,zz,.c (.ow 9001),zz,.c (.ow 9002),.c (.ow 9003),.c (.sc (.int .i64 (t))),.c (.ow 9004),.c (.sc (.int .i64 (k'.1))),zz,zz,zz,zz,zz,zz,zz,zz,zz,zz,zz,zz,zz,zz,zz,zz,zz,zz,zz,zz,zz,zz,zz,zz,zz,zz,zz,zz,zz,zz,zz,zz,zz,zz,zz,zz,zz,zz,zz,zz,zz,zz,zz,zz,zz,zz,zz,zz,zz,zz,zz,zz,zz,zz,zz,zz,zz,zz,zz,zz,zz,zz,zz,zz,zz,zz,zz,zz,zz,zz,zz,zz,zz,zz,zz,zz,zz,zz,zz,zz,zz,zz,zz,zz,zz,zz,zz,zz,zz,zz,zz,zz,zz,zz,zz,zz,zz,zz,zz,zz],[(148,.box [.sc (.int .i64 (gi)),.sc (.int .i64 (gr)),.rd [] 24 ((.row 2 (.int .i64))) ts,.rd [] 49 ((.prod (.int .i64) (.prod (.int .i64) (.prod (.int .i64) (.prod (.int .i64) (.prod (.row 2 (.int .i64)) (.int .i64))))))) xs,.rd [] 2 (.int .i64) (os)]),(9001,.tree 24 (.row 2 (.int .i64)) (byI xs (runG (gi,gr,ts,xs,os) ins t).2) none),(9002,.row 2 (.int .i64) ((runG (gi,gr,ts,xs,os) ins t).1) []),(9003,.tree 24 (.row 2 (.int .i64)) ((runO (gi,gr,ts,xs,os) ins t)) none),(9004,.row 2 (.int .i64) ((frameAt ins (t:Int)).take k'.1) [])]⟩) (fun k'=>ins.length - k'.1) ⟨0,by simp⟩ ?_ ?_
            ·
             refine oK ?_
             simp (maxSteps:=2000000)only[go_sem]
             all_goals((repeat' refine And.intro ?_ ?_)<;>first|rfl|exact True.intro|omega|(congr 1;done)|(simp;done)|(simp;intro h9;first|assumption|(exact absurd h9 (by assumption))))
            rintro⟨m,hm⟩ K33 hL33
            have htl:((frameAt ins (t:Int)).take m).length=m:=by rw[List.length_take];omega
            have hf8:(((frameAt ins (t:Int)).take m).length+1) * 8≤140737488355328:=by omega
            have hset:m < ins.length→(frameAt ins (t:Int)).take m++[(ins.getD m []).getD (Int.toNat (t:Int)) 0]=(frameAt ins (t:Int)).take (m+1):=fun h=>by rw[←frameAt_at h];exact(take_next (by omega)).symm
            refine oS fun _ hK34=>?_
            refine oS fun _ hK35=>?_
            refine oW T_mHpC0_ok ?_
            simp only[go_sem]
            repeat(with_reducible first|refine oA ?_|refine And.intro (by first|exact hsx|exact hfc|exact hat|exact hb1|exact hb2|exact hb3|omega) ?_)
            refine hK35 _ ?_
            refine AWP_cond rfl ?_ ?_
            ·
             intro c5
             try simp only[zA,zB,zC,zD,zE,zF,zG,zH,zI] at c5
             all_goals
              have hset':=hset (by omega)
              have hat:inR (t:Int) 0 9223372036854775807=true:=inR_t (by omega) (by omega)
              refine AWP_skip ?_
              simp only[go_sem]
              refine hK34 _ ?_
              refine oS fun _ hK36=>?_
              refine AWP_block ?_
              refine oW T_mHpC0_ok ?_
              simp (maxSteps:=2000000)only[List.nodup_cons,List.nodup_nil,List.not_mem_nil,not_false_eq_true,go_sem]
              repeat(with_reducible first|refine oA ?_|refine And.intro (by first|exact hat|exact hf8|omega) ?_)
              refine hK36 _ ?_
              refine oW T_mHpC0_ok ?_
              simp only[go_sem]
              repeat(with_reducible first|refine oA ?_|refine And.intro (by first|exact hsx|exact hfc|exact hat|exact hb1|exact hb2|exact hb3|omega) ?_)
              refine hL33 ⟨m+1,by omega⟩ _ (oK ?_) ?_
              ·
               simp (maxSteps:=2000000)only[go_sem]
               all_goals((repeat' refine And.intro ?_ ?_)<;>first|rfl|exact wk (by omega)|exact hset (by omega)|(congr 1;exact hset (by omega))|(congr 1;done))
              ·
               first|(simp only[];omega)|omega|(simp;omega)
            ·
             intro c5
             try simp only[zA,zB,zC,zD,zE,zF,zG,zH,zI] at c5
             all_goals
              have hfa:(frameAt ins (t:Int)).take m=(frameAt ins (t:Int)):=List.take_of_length_le (by omega)
              have hfc:progB (gi,gr,ts,xs,os)=true∧smps (frameAt ins (t:Int))=true∧((frameAt ins (t:Int)).length:Int)=gi∧RefOk (gi,gr,ts,xs,os) ((runG (gi,gr,ts,xs,os) ins t).1,byI xs (runG (gi,gr,ts,xs,os) ins t).2):=⟨hP,hfr.2,hfr.1,hrf⟩
              refine AWP_exit ?_
              simp only[go_sem]
              refine hK31 _ ?_
              refine oS fun _ hK37=>?_
              refine oW T_mHpC0_ok ?_
              simp only[hfa,hstp,go_sem]
              repeat(with_reducible first|refine oA ?_|refine And.intro (by first|exact hfc|omega) ?_)
              refine hK37 _ ?_
              refine oS fun _ hK38=>?_
              refine oW T_mHpC0_ok ?_
              simp only[go_sem]
              repeat(with_reducible first|refine oA ?_|refine And.intro (by first|exact hsx|exact hfc|exact hat|exact hb1|exact hb2|exact hb3|omega) ?_)
              refine hK38 _ ?_
              refine AWP_block ?_
              refine AWP_loop_k (ι:={ m:Nat // m≤os.length }) (fun k'=>⟨[zz,.c (.rd [] 24 (.row 2 (.int .i64)) (ins)),.c (.sc (.int .i64 (nn))),.c (.po 148 0),zz,zz,zz,zz,zz,zz,.c (.ow 9001),zz,.c (.ow 9002),.c (.ow 9003),.c (.sc (.int .i64 (t))),zz,zz,.c (.sc (.int .i64 (k'.1))),zz,zz,zz,zz,zz,zz,zz,zz,zz,zz,zz,zz,zz,zz,zz,zz,zz,zz,zz,zz,zz,zz,zz,zz,zz,zz,zz,zz,zz,zz,zz,zz,zz,zz,zz,zz,zz,zz,zz,zz,zz,zz,zz,zz,zz,zz,zz,zz,zz,zz,zz,zz,zz,zz,zz,zz,zz,zz,zz,zz,zz,zz,zz,zz,zz,zz,zz,zz,zz,zz,zz,zz,zz,zz,zz,zz,zz,zz,zz,zz,zz,zz,zz,zz,zz,zz,zz,zz,zz,zz,zz,zz,zz,zz,zz,zz,zz,zz,zz],[(148,.box [.sc (.int .i64 (gi)),.sc (.int .i64 (gr)),.rd [] 24 ((.row 2 (.int .i64))) ts,.rd [] 49 ((.prod (.int .i64) (.prod (.int .i64) (.prod (.int .i64) (.prod (.int .i64) (.prod (.row 2 (.int .i64)) (.int .i64))))))) xs,.rd [] 2 (.int .i64) (os)]),(9001,.tree 24 (.row 2 (.int .i64)) (byI xs (runG (gi,gr,ts,xs,os) ins (t+1)).2) none),(9002,.row 2 (.int .i64) ((runG (gi,gr,ts,xs,os) ins (t+1)).1) []),(9003,.tree 24 (.row 2 (.int .i64)) (blend (addOut (runO (gi,gr,ts,xs,os) ins t) (outX (gi,gr,ts,xs,os) (runG (gi,gr,ts,xs,os) ins (t+1)).1)) (runO (gi,gr,ts,xs,os) ins t) k'.1) none)]⟩) (fun k'=>os.length - k'.1) ⟨0,by simp⟩ ?_ ?_
              ·
               refine oK ?_
               simp (maxSteps:=2000000)only[go_sem]
               all_goals((repeat' refine And.intro ?_ ?_)<;>first|rfl|omega|(congr 1;exact blend_zero.symm)|(congr 1;done))
              rintro⟨m,hm⟩ K39 hL39
              have hxl2:(outX (gi,gr,ts,xs,os) (runG (gi,gr,ts,xs,os) ins (t+1)).1).length=os.length:=outX_len _ _
              have hal:(addOut (runO (gi,gr,ts,xs,os) ins t) (outX (gi,gr,ts,xs,os) (runG (gi,gr,ts,xs,os) ins (t+1)).1)).length=(runO (gi,gr,ts,xs,os) ins t).length:=by rw[addOut_len (by omega)];omega
              have hbl1:(blend (addOut (runO (gi,gr,ts,xs,os) ins t) (outX (gi,gr,ts,xs,os) (runG (gi,gr,ts,xs,os) ins (t+1)).1)) (runO (gi,gr,ts,xs,os) ins t) m).length=os.length:=by rw[blend_len (by omega) (by omega)];omega
              have hbat0:m < os.length→(blend (addOut (runO (gi,gr,ts,xs,os) ins t) (outX (gi,gr,ts,xs,os) (runG (gi,gr,ts,xs,os) ins (t+1)).1)) (runO (gi,gr,ts,xs,os) ins t) m).getD m []=(runO (gi,gr,ts,xs,os) ins t).getD m []:=fun h=>blend_at [] (by omega) (by omega)
              have holn:m < os.length→((runO (gi,gr,ts,xs,os) ins t).getD m []).length=t:=fun h=>runO_row _ _ h t
              have hset:m < os.length→(blend (addOut (runO (gi,gr,ts,xs,os) ins t) (outX (gi,gr,ts,xs,os) (runG (gi,gr,ts,xs,os) ins (t+1)).1)) (runO (gi,gr,ts,xs,os) ins t) m).set m ((runO (gi,gr,ts,xs,os) ins t).getD m []++[(outX (gi,gr,ts,xs,os) (runG (gi,gr,ts,xs,os) ins (t+1)).1).getD m 0])=blend (addOut (runO (gi,gr,ts,xs,os) ins t) (outX (gi,gr,ts,xs,os) (runG (gi,gr,ts,xs,os) ins (t+1)).1)) (runO (gi,gr,ts,xs,os) ins t) (m+1):=fun h=>by rw[←addOut_at (by omega) (by omega)];exact blend_set [] (by omega) (by omega)
              have hoa0:m < os.length→(outX (gi,gr,ts,xs,os) (runG (gi,gr,ts,xs,os) ins (t+1)).1).getD m 0=(runG (gi,gr,ts,xs,os) ins (t+1)).1.getD (Int.toNat (os.getD m 0)) 0:=fun h=>outX_at h _
              refine oS fun _ hK40=>?_
              refine oS fun _ hK41=>?_
              refine oW T_mHpC0_ok ?_
              simp only[go_sem]
              repeat(with_reducible first|refine oA ?_|refine And.intro (by first|exact hsx|exact hfc|exact hat|exact hb1|exact hb2|exact hb3|omega) ?_)
              refine hK41 _ ?_
              refine AWP_cond rfl ?_ ?_
              ·
               intro c6
               try simp only[zA,zB,zC,zD,zE,zF,zG,zH,zI] at c6
               all_goals
                have hbat:=hbat0 (by omega)
                have hoo:=hC.out (m:=m) (by show m < os.length;omega)
                have hb1:0≤os.getD m 0∧os.getD m 0 < ((runG (gi,gr,ts,xs,os) ins (t+1)).1.length:Int):=by have h1:0≤os.getD m 0∧os.getD m 0 < gr:=hoo;omega
                have hln:=holn (by omega)
                have hb2:(((runO (gi,gr,ts,xs,os) ins t).getD m []).length+1) * 8≤140737488355328:=by omega
                refine AWP_skip ?_
                simp only[go_sem]
                refine hK40 _ ?_
                refine oS fun _ hK42=>?_
                refine AWP_block ?_
                refine oR T_mHpC0_ok
                  [[],[],[],[],[2,3],[2,3,4],[],[],[7],[],[7,8,9],[7,8,9,10],[6,7,8,9,10,11],[6,7,8,9,10,11,12],[6,7,8,9,10,11,12,13],[2,3,4,5,6,7,8,9,10,11,12,13,14],[0,1,2,3,4,5,6,7,8,9,10,11,12,13,14,15],[0,1,2,3,4,5,6,7,8,9,10,11,12,13,14,15,16]]
                  [[1908,1924,1009003],[1908,1924,1009003],[1908],[1908],[1908],[1908],[],[],[],[],[],[],[],[],[],[],[],[]]
                  [[],[],[],[],[],[],[],[],[],[],[],[],[],[],[1908],[1908,1924,1009003],[],[]] (by kernel_rfl) (by kernel_rfl) (adrawR_ok (acc:=[]) ?_)
                simp (maxSteps:=2000000)only[List.nodup_cons,List.nodup_nil,List.not_mem_nil,not_false_eq_true,hbat,go_sem]
                repeat(with_reducible first|refine oD ?_|refine And.intro (by first|exact hb1|exact hb2|exact hb3|omega) ?_)
                refine hK42 _ ?_
                refine oW T_mHpC0_ok ?_
                simp only[go_sem]
                repeat(with_reducible first|refine oA ?_|refine And.intro (by first|exact hsx|exact hfc|exact hat|exact hb1|exact hb2|exact hb3|omega) ?_)
                refine hL39 ⟨m+1,by omega⟩ _ (oK ?_) ?_
                ·
                 simp (maxSteps:=2000000)only[go_sem]
                 all_goals((repeat' refine And.intro ?_ ?_)<;>first|rfl|exact wk (by omega)|(congr 1;rw[←hoa0 (by omega)];exact hset (by omega))|(congr 1;done))
                ·
                 first|(simp only[];omega)|omega|(simp;omega)
              ·
               intro c6
               try simp only[zA,zB,zC,zD,zE,zF,zG,zH,zI] at c6
               all_goals
                refine AWP_exit ?_
                simp only[go_sem]
                refine hK29 _ ?_
                refine oW T_mHpC0_ok ?_
                simp only[go_sem]
                repeat(with_reducible first|refine oA ?_|refine And.intro (by first|exact hsx|exact hfc|exact hat|exact hb1|exact hb2|exact hb3|omega) ?_)
                refine hL26 ⟨t+1,by omega⟩ _ (oK ?_) ?_
                ·
                 simp (maxSteps:=2000000)only[go_sem]
                 all_goals((repeat' refine And.intro ?_ ?_)<;>first|rfl|(rw[wrapI (by omega)];omega)|(congr 1;exact blend_all (by rw[addOut_len (by omega)];omega) (by rw[addOut_len (by omega)];omega))|(congr 1;done))
                ·
                 first|(simp only[];omega)|omega|(simp;omega)
          ·
           intro c4
           try simp only[zA,zB,zC,zD,zE,zF,zG,zH,zI] at c4
           all_goals
            refine AWP_exit ?_
            simp only[go_sem]
            refine hK24 _ ?_
            refine oS fun _ hK43=>?_
            refine oW T_mHpC0_ok ?_
            simp only[go_sem]
            repeat(with_reducible first|refine oA ?_|refine And.intro (by first|exact hsx|exact hfc|exact hat|exact hb1|exact hb2|exact hb3|omega) ?_)
            refine hK43 _ ?_
            refine AWP_ret ?_
            simp only[hres,go_sem]
            first
             | exact oF
             | refine ⟨?_, oF⟩
               rw[runR_0 hP hsig]
               have htn:t=nn.toNat:=by omega
               clear hK1 hK2 hK3 hK5 hK6 hK7 hL8 hK9 hK10 hK12 hK13 hK15 hK16 hK17 hL18 hK19 hK20 hK22 hK23 hK24 hK25 hL26 hK27 hK28 hK43
               subst htn
               first|rfl|exact⟨rfl,rfl⟩
def T_specRun:Tab:=fun f=>if f=6 then some (.p K_specRun) else T_mHpC0 f
theorem T_specRun_ok:TabOk Try.prog T_specRun:=tabP specRun_ok (fnOk_of Try.func6 rfl (by decide)) T_mHpC0_ok
attribute [go_sem] T_specRun K_specRun
end Go.Proofs.Ytenjbehedcegdaa
