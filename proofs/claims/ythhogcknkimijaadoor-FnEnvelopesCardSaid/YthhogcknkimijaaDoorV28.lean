/-
  Texts of this claim, joined (part 28). No condition beyond those of the theorems.
-/
import Derived.Test.YthhogcknkimijaaDoorV21
import Derived.Test.YthhogcknkimijaaDoorV25
import Derived.Test.YthhogcknkimijaaDoorV26
import Derived.Test.YthhogcknkimijaaDoorV27
namespace Go.Proofs.YthhogcknkimijaaDoor
open Go.RowKit
set_option linter.unusedSimpArgs false
set_option linter.unusedVariables false
set_option maxRecDepth 100000
set_option maxHeartbeats 16000000
def T_mHx280:Tab:=fun f=>match T_implRdE f with
 | some k=>some k
 | none=>T_implEnvT f
theorem T_mHx280_ok:TabOk Tryd.prog T_mHx280:=tabM T_implRdE_ok T_implEnvT_ok
attribute [go_sem] T_mHx280 T0
def T_mHx281:Tab:=fun f=>match T_mHx280 f with
 | some k=>some k
 | none=>T_hldE f
theorem T_mHx281_ok:TabOk Tryd.prog T_mHx281:=tabM T_mHx280_ok T_hldE_ok
attribute [go_sem] T_mHx281 T0
def T_mHx282:Tab:=fun f=>match T_mHx281 f with
 | some k=>some k
 | none=>T_a2At f
theorem T_mHx282_ok:TabOk Tryd.prog T_mHx282:=tabM T_mHx281_ok T_a2At_ok
attribute [go_sem] T_mHx282 T0
def K_lawEnvs:Con:=⟨[.val ((.row 5 (.int .u8))),.val ((.row 5 (.int .u8)))],[⟨.bool,true⟩],fun x=>(∀b∈(x.1:List Int),0≤b∧b≤255)∧(∀b∈(x.2.1:List Int),0≤b∧b≤255),fun _=>true⟩
theorem lawEnvs_ok:PureT Tryd.prog 5 K_lawEnvs:=by
  refine pure_of_body Tryd.func5 rfl ?_
  have hres:Tryd.f5.results.toList=[.tmp 4]:=rfl
  rintro⟨(cd:List Int),(pd:List Int),_⟩ hc hL
  simp only[K_lawEnvs,go_sem] at hL
  simp only[K_lawEnvs,St.init,St.initG,Tryd.ntmps5,go_sem] 
  obtain⟨hcd,hpd⟩:=(show (∀b∈cd,0≤b∧b≤255)∧(∀b∈pd,0≤b∧b≤255) from hc)
  have he:=envC_ok hcd
  have hpc:(∀b∈pd,0≤b∧b≤255)∧(0:Int)≤0∧(0:Int)≤60:=⟨hpd,by omega,by omega⟩
  obtain⟨hG1,hG2⟩:=atB_bd hpd (k:=0) (m:=60) (by omega) (by omega)
  generalize hG:atB pd 0 60=G at *
  rcases hd:envC cd with⟨st,sg,rl⟩
  rw[hd] at he
  obtain⟨hsa,hsb,hsc,hsd⟩:=envB_parts he
  simp only at hsa hsb hsc hsd
  obtain⟨hst1,hst2⟩:=inR_iff.1 hsb
  obtain⟨hrl1,hrl2⟩:=inR_iff.1 hsc
  have hrn:rndE (st,sg,rl) G 90=(lvlL (st,sg,rl) G 90,0):=rndE_0 he (by rw[inR_t hG1 (by omega)];rfl)
  have hen:endR (st,sg,rl) G=((endI (st,sg,rl) G (G+rl).toNat),0):=endR_0 he (inR_t hG1 (by omega))
  have heb:=endI_bd (st,sg,rl) G (G+rl).toNat
  have hea:=endI_above (st,sg,rl) G (G+rl).toNat
  have hel:=endI_last (st,sg,rl) G (G+rl).toNat
  generalize hE:(endI (st,sg,rl) G (G+rl).toNat)=E at *
  have hEw:IntKind.i64.wrap (G+rl)=G+rl:=wrapI (by omega)
  have hE1:IntKind.i64.wrap (E - 1)=E - 1:=wrapI (by omega)
  have hE2:E≤G+rl:=by omega
  have hll:=lvlL_len (st,sg,rl) G 90
  have hrd:=rd_text he
  have hts:=envT_len he
  have hlev:∀i:Nat,i < 90→levR (st,sg,rl) G (i:Int)=(levelE (st,sg,rl) G (i:Int),0):=fun i h=>levR_0 he (by rw[inR_t hG1 (by omega),inR_t (x:=(i:Int)) (by omega) (by omega)];rfl)
  have hlz:∀i:Nat,E≤(i:Int)→levelE (st,sg,rl) G (i:Int)=0:=fun i h=>by
    by_cases c:i < (G+rl).toNat
    · exact hea i h c
    · exact level_past hrl1 (by show G+rl≤_;omega)
  refine oS fun _ hK1=>?_
  refine oW T_mHx282_ok ?_
  refine aseq_take 200 (by rfl) ?_
  simp only[go_sem]
  repeat(with_reducible first|refine oA ?_|refine And.intro (by first|exact hcd|exact hpc) ?_)
  refine hK1 _ ?_
  refine oS fun _ hK2=>?_
  refine oS fun _ hK3=>?_
  refine oW T_mHx282_ok ?_
  refine aseq_take 200 (by rfl) ?_
  simp only[go_sem]
  repeat(with_reducible first|refine oA ?_|refine And.intro (by first|exact hcd|exact hpc) ?_)
  refine hK3 _ ?_
  refine oC rfl ?_ ?_
  ·
   intro c0
   refine oS fun _ hK4=>?_
   refine oW T_mHx282_ok ?_
   refine aseq_take 200 (by rfl) ?_
   simp only[go_sem]
   repeat(with_reducible first|refine oA ?_|refine And.intro (by first|exact hcd|exact hpc) ?_)
   refine hK4 _ ?_
   refine AWP_ret ?_
   simp only[hres,go_sem]
   first|exact oF|exact oFr
  intro c0
  refine AWP_skip ?_
  simp only[go_sem]
  refine hK2 _ ?_
  refine oS fun _ hK5=>?_
  refine oW T_mHx282_ok ?_
  refine aseq_take 200 (by rfl) ?_
  simp only[List.nodup_cons,List.nodup_nil,List.not_mem_nil,not_false_eq_true,hd,go_sem]
  repeat(with_reducible first|refine oA ?_|refine And.intro (by first|exact hcd|exact hpc) ?_)
  refine hK5 _ ?_
  refine oS fun _ hK6=>?_
  refine oW T_mHx282_ok ?_
  refine aseq_take 200 (by rfl) ?_
  simp only[hG,go_sem]
  repeat(with_reducible first|refine oA ?_|refine And.intro (by first|exact hcd|exact hpc) ?_)
  refine hK6 _ ?_
  refine oS fun _ hK7=>?_
  refine oW T_mHx282_ok ?_
  refine aseq_take 200 (by rfl) ?_
  simp (maxSteps:=2000000)only[hrn,go_sem]
  repeat(with_reducible first|refine oA ?_|refine And.intro (by first|exact hcd|exact hpc) ?_)
  refine hK7 _ ?_
  refine oS fun _ hK8=>?_
  refine oW T_mHx282_ok ?_
  refine aseq_take 200 (by rfl) ?_
  simp (maxSteps:=2000000)only[hen,go_sem]
  repeat(with_reducible first|refine oA ?_|refine And.intro (by first|exact hcd|exact hpc) ?_)
  refine hK8 _ ?_
  refine oS fun _ hK9=>?_
  refine oS fun _ hK10=>?_
  refine oW T_mHx282_ok ?_
  refine aseq_take 200 (by rfl) ?_
  simp (maxSteps:=2000000)only[hll,hEw,go_sem]
  repeat' (with_reducible first|refine oA ?_|refine And.intro (by first|exact hcd|exact hpc) ?_|refine oT (fun g7=>?_) (fun g7=>?_)|refine oE (fun g7=>?_) (fun g7=>?_))
  all_goals
   refine hK10 _ ?_
   refine AWP_cond rfl ?_ ?_
   ·
    intro c1
    try simp only[zA,zB,zC,zD,zE,zF,zG,zH,zI] at c1
    all_goals
     all_goals first|(cases c1;done)|(simp at c1;done)|omega
   ·
    intro c1
    try simp only[zA,zB,zC,zD,zE,zF,zG,zH,zI] at c1
    all_goals
     refine AWP_skip ?_
     simp only[go_sem]
     refine hK9 _ ?_
     refine oS fun _ hK11=>?_
     refine oS fun _ hK12=>?_
     refine oW T_mHx282_ok ?_
     refine aseq_take 200 (by rfl) ?_
     simp only[go_sem]
     repeat(with_reducible first|refine oA ?_|refine And.intro (by first|exact hcd|exact hpc) ?_)
     refine hK12 _ ?_
     refine AWP_block ?_
     refine AWP_loop_k (ι:={ k:Nat // k≤90 }) (fun k=>⟨(zz::zz::zz::zz::zz::.c (.po 180 0)::.c (.sc (.int .i64 (G)))::.c (.ow 9001)::zz::.c (.sc (.int .i64 (E)))::zz::.c (.sc (.int .i64 (k.1)))::zz::zz::zz::zz::zz::zz::zz::zz::zz::zz::zz::zz::zz::zz::zz::zz::zz::zz::zz::zz::zz::zz::zz::zz::zz::zz::zz::zz::zz::zz::zz::zz::zz::zz::zz::zz::zz::zz::zz::zz::zz::zz::zz::zz::zz::zz::zz::zz::zz::zz::zz::zz::zz::zz::zz::zz::zz::zz::zz::zz::zz::zz::zz::zz::zz::zz::zz::zz::zz::zz::zz::zz::zz::zz::zz::zz::zz::zz::zz::zz::zz::zz::zz::zz::zz::zz::zz::zz::zz::zz::zz::zz::zz::zz::zz::zz::zz::zz::zz::zz::zz::zz::zz::zz::zz::zz::zz::zz::zz::zz::zz::zz::zz::zz::zz::zz::zz::zz::zz::zz::zz::zz::zz::zz::zz::zz::zz::zz::zz::zz::zz::zz::zz::zz::zz::zz::zz::zz::zz::zz::zz::zz::zz::zz::zz::zz::zz::zz::zz::zz::zz::zz::zz::zz::zz::zz::zz::zz::zz::zz::zz::zz::zz::[]),[(180,.box [.sc (.int .i64 (st)),.ow 9002,.sc (.int .i64 (rl))]),(9001,.row 2 (.int .i64) (lvlL (st,sg,rl) G 90) []),(9002,.row 48 ((.prod (.int .i64) (.int .i64))) (sg) [])]⟩) (fun k=>90 - k.1) ⟨0,by simp⟩ ?_ ?_
     ·
      refine oK ?_
      simp (maxSteps:=2000000)only[go_sem]
      all_goals((repeat' refine And.intro ?_ ?_)<;>first|rfl|exact True.intro|exact wk (by omega)|omega|(rw[wrapI (by omega)];omega)|(congr 1;done)|(simp;done))
     rintro⟨k,hk⟩ K13 hL13
     refine oS fun _ hK14=>?_
     refine oS fun _ hK15=>?_
     refine oW T_mHx282_ok ?_
     refine aseq_take 200 (by rfl) ?_
     simp only[go_sem]
     repeat(with_reducible first|refine oA ?_|refine And.intro (by first|exact hcd|exact hpc) ?_)
     refine hK15 _ ?_
     refine AWP_cond rfl ?_ ?_
     ·
      intro c2
      try simp only[zA,zB,zC,zD,zE,zF,zG,zH,zI] at c2
      all_goals
       have hlv:=hlev k (by omega)
       have hla:(lvlL (st,sg,rl) G 90).getD k 0=levelE (st,sg,rl) G (k:Int):=lvlL_at (by omega)
       obtain⟨hb1,hb2⟩:=levelE_bd (e:=(st,sg,rl)) (g:=G) (a:=(k:Int)) ⟨he,⟨hG1,by omega⟩,by omega,by omega⟩
       have hz1:=hlz k
       have hz2:=hel k
       refine AWP_skip ?_
       simp only[go_sem]
       refine hK14 _ ?_
       refine oS fun _ hK16=>?_
       refine AWP_block ?_
       refine oS fun _ hK17=>?_
       refine oW T_mHx282_ok ?_
       refine aseq_take 200 (by rfl) ?_
       simp (maxSteps:=2000000)only[hlv,go_sem]
       repeat(with_reducible first|refine oA ?_|refine And.intro (by first|exact hcd|exact hpc) ?_)
       refine hK17 _ ?_
       refine oS fun _ hK18=>?_
       refine oW T_mHx282_ok ?_
       refine aseq_take 200 (by rfl) ?_
       simp (maxSteps:=2000000)only[hll,hla,hE1,go_sem]
       repeat' (with_reducible first|refine oA ?_|refine And.intro (by first|exact hcd|exact hpc) ?_|refine oT (fun g13=>?_) (fun g13=>?_)|refine oE (fun g13=>?_) (fun g13=>?_))
       all_goals
        refine hK18 _ ?_
        refine AWP_cond rfl ?_ ?_
        ·
         intro c3
         try simp only[zA,zB,zC,zD,zE,zF,zG,zH,zI] at c3
         all_goals
          all_goals first|omega|(exact absurd (hz1 (by omega)) (by assumption))|(exact absurd (by assumption) (hz2 (by omega)))|(cases c3;done)
        ·
         intro c3
         try simp only[zA,zB,zC,zD,zE,zF,zG,zH,zI] at c3
         all_goals
          refine AWP_skip ?_
          simp only[go_sem]
          refine hK16 _ ?_
          refine oW T_mHx282_ok ?_
          refine aseq_take 200 (by rfl) ?_
          simp only[go_sem]
          repeat(with_reducible first|refine oA ?_|refine And.intro (by first|exact hcd|exact hpc) ?_)
          refine hL13 ⟨k+1,by omega⟩ _ (oK ?_) ?_
          ·
           simp (maxSteps:=2000000)only[go_sem]
           all_goals((repeat' refine And.intro ?_ ?_)<;>first|rfl|exact True.intro|exact wk (by omega)|omega|(rw[wrapI (by omega)];omega)|(congr 1;done)|(simp;done))
          ·
           first|(simp only[];omega)|omega|(simp;omega)
     ·
      intro c2
      try simp only[zA,zB,zC,zD,zE,zF,zG,zH,zI] at c2
      all_goals
       refine AWP_exit ?_
       simp only[go_sem]
       refine hK11 _ ?_
       refine oS fun _ hK19=>?_
       refine oW T_mHx282_ok ?_
       refine aseq_take 200 (by rfl) ?_
       simp only[go_sem]
       repeat(with_reducible first|refine oA ?_|refine And.intro (by first|exact hcd|exact hpc) ?_)
       refine hK19 _ ?_
       refine oS fun _ hK20=>?_
       refine oS fun _ hK21=>?_
       refine oW T_mHx282_ok ?_
       refine aseq_take 200 (by rfl) ?_
       simp only[go_sem]
       repeat(with_reducible first|refine oA ?_|refine And.intro (by first|exact hcd|exact hpc) ?_)
       refine hK21 _ ?_
       refine AWP_block ?_
       refine AWP_loop_k (ι:={ k:Nat // k≤sg.length }) (fun k=>⟨(zz::zz::zz::zz::zz::.c (.po 180 0)::zz::zz::zz::zz::zz::zz::zz::zz::.c (.sc (.int .i64 (lenS sg k.1)))::.c (.sc (.int .i64 (k.1)))::zz::zz::zz::zz::zz::zz::zz::zz::zz::zz::zz::zz::zz::zz::zz::zz::zz::zz::zz::zz::zz::zz::zz::zz::zz::zz::zz::zz::zz::zz::zz::zz::zz::zz::zz::zz::zz::zz::zz::zz::zz::zz::zz::zz::zz::zz::zz::zz::zz::zz::zz::zz::zz::zz::zz::zz::zz::zz::zz::zz::zz::zz::zz::zz::zz::zz::zz::zz::zz::zz::zz::zz::zz::zz::zz::zz::zz::zz::zz::zz::zz::zz::zz::zz::zz::zz::zz::zz::zz::zz::zz::zz::zz::zz::zz::zz::zz::zz::zz::zz::zz::zz::zz::zz::zz::zz::zz::zz::zz::zz::zz::zz::zz::zz::zz::zz::zz::zz::zz::zz::zz::zz::zz::zz::zz::zz::zz::zz::zz::zz::zz::zz::zz::zz::zz::zz::zz::zz::zz::zz::zz::zz::zz::zz::zz::zz::zz::zz::zz::zz::zz::zz::zz::zz::zz::zz::zz::zz::zz::[]),[(180,.box [.sc (.int .i64 (st)),.ow 9002,.sc (.int .i64 (rl))]),(9002,.row 48 ((.prod (.int .i64) (.int .i64))) (sg) [])]⟩) (fun k=>sg.length - k.1) ⟨0,by simp⟩ ?_ ?_
       ·
        refine oK ?_
        simp (maxSteps:=2000000)only[go_sem]
        all_goals((repeat' refine And.intro ?_ ?_)<;>first|rfl|exact True.intro|exact wk (by omega)|omega|(rw[wrapI (by omega)];omega)|(congr 1;done)|(simp;done))
       rintro⟨k,hk⟩ K22 hL22
       refine oS fun _ hK23=>?_
       refine oS fun _ hK24=>?_
       refine oW T_mHx282_ok ?_
       refine aseq_take 200 (by rfl) ?_
       simp (maxSteps:=2000000)only[go_sem]
       repeat(with_reducible first|refine oA ?_|refine And.intro (by first|exact hcd|exact hpc) ?_)
       refine hK24 _ ?_
       refine AWP_cond rfl ?_ ?_
       ·
        intro c4
        try simp only[zA,zB,zC,zD,zE,zF,zG,zH,zI] at c4
        all_goals
         have hsn:=lenS_next (sg:=sg) (k:=k) (by omega)
         have hsb:=lenS_bd hsa (k+1) (by omega)
         have hsw:IntKind.i64.wrap (lenS sg k+(sg.getD k ((0,0):Int × Int)).1)=lenS sg (k+1):=by rw[hsn];exact wrapI (by omega)
         have hhl:hldR (st,sg,rl) (lenS sg (k+1))=(heldG st sg (lenS sg (k+1)),0):=hldR_0 he (inR_t (by omega) (by omega))
         have hhe:=fun h=>held_end hsa st (k:=k) (by omega) h
         have hkw:IntKind.i64.wrap ((k:Int)+1)=(k:Int)+1:=wrapI (by omega)
         have hkt:((k:Int)+1).toNat=k+1:=by omega
         refine AWP_skip ?_
         simp only[go_sem]
         refine hK23 _ ?_
         refine oS fun _ hK25=>?_
         refine AWP_block ?_
         refine oS fun _ hK26=>?_
         refine oW T_mHx282_ok ?_
         refine aseq_take 200 (by rfl) ?_
         simp (maxSteps:=2000000)only[hsw,go_sem]
         repeat(with_reducible first|refine oA ?_|refine And.intro (by first|exact hcd|exact hpc) ?_)
         refine hK26 _ ?_
         refine oS fun _ hK27=>?_
         refine oW T_mHx282_ok ?_
         refine aseq_take 200 (by rfl) ?_
         simp (maxSteps:=2000000)only[hhl,go_sem]
         repeat(with_reducible first|refine oA ?_|refine And.intro (by first|exact hcd|exact hpc) ?_)
         refine hK27 _ ?_
         refine oS fun _ hK28=>?_
         refine oW T_mHx282_ok ?_
         refine aseq_take 200 (by rfl) ?_
         simp (maxSteps:=2000000)only[hkw,hkt,go_sem]
         repeat' (with_reducible first|refine oA ?_|refine And.intro (by first|exact hcd|exact hpc) ?_|refine oT (fun g21=>?_) (fun g21=>?_)|refine oE (fun g21=>?_) (fun g21=>?_))
         all_goals
          refine hK28 _ ?_
          refine oS fun _ hK29=>?_
          refine oW T_mHx282_ok ?_
          refine aseq_take 200 (by rfl) ?_
          simp (maxSteps:=2000000)only[go_sem]
          repeat' (with_reducible first|refine oA ?_|refine And.intro (by first|exact hcd|exact hpc) ?_|refine oT (fun g22=>?_) (fun g22=>?_)|refine oE (fun g22=>?_) (fun g22=>?_))
          all_goals
           refine hK29 _ ?_
           refine AWP_cond rfl ?_ ?_
           ·
            intro c5
            try simp only[zA,zB,zC,zD,zE,zF,zG,zH,zI] at c5
            all_goals
             all_goals first|(cases c5;done)|(exact absurd (hhe (by omega)) (by assumption))|omega
           ·
            intro c5
            try simp only[zA,zB,zC,zD,zE,zF,zG,zH,zI] at c5
            all_goals
             refine AWP_skip ?_
             simp only[go_sem]
             refine hK25 _ ?_
             refine oW T_mHx282_ok ?_
             refine aseq_take 200 (by rfl) ?_
             simp only[go_sem]
             repeat(with_reducible first|refine oA ?_|refine And.intro (by first|exact hcd|exact hpc) ?_)
             refine hL22 ⟨k+1,by omega⟩ _ (oK ?_) ?_
             ·
              simp (maxSteps:=2000000)only[go_sem]
              all_goals((repeat' refine And.intro ?_ ?_)<;>first|rfl|exact True.intro|exact wk (by omega)|omega|(rw[wrapI (by omega)];omega)|(congr 1;done)|(simp;done))
             ·
              first|(simp only[];omega)|omega|(simp;omega)
       ·
        intro c4
        try simp only[zA,zB,zC,zD,zE,zF,zG,zH,zI] at c4
        all_goals
         refine AWP_exit ?_
         simp only[go_sem]
         refine hK20 _ ?_
         refine oS fun _ hK30=>?_
         refine oW T_mHx282_ok ?_
         refine aseq_take 200 (by rfl) ?_
         simp (maxSteps:=2000000)only[bs_data,hrd,go_sem]
         repeat(with_reducible first|refine oA ?_|refine And.intro (by first|exact hts|rw[bs_size];exact hts) ?_)
         refine hK30 _ ?_
         refine oS fun _ hK31=>?_
         refine oW T_mHx282_ok ?_
         refine aseq_take 200 (by rfl) ?_
         simp (maxSteps:=2000000)only[eqD_rfl,go_sem]
         repeat' (with_reducible first|refine oA ?_|refine And.intro (by first|exact hcd|exact hpc) ?_|refine oT (fun g25=>?_) (fun g25=>?_)|refine oE (fun g25=>?_) (fun g25=>?_))
         all_goals
          refine hK31 _ ?_
          refine AWP_ret ?_
          simp only[hres,go_sem]
          first|exact oF|exact oFr
def T_lawEnvs:Tab:=fun f=>if f=5 then some (.p K_lawEnvs) else T_mHx282 f
attribute [go_sem] T_lawEnvs K_lawEnvs
end Go.Proofs.YthhogcknkimijaaDoor
