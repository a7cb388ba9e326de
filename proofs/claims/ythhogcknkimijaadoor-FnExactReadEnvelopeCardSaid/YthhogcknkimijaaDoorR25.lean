/-
  Texts of this claim, joined (part 25). No condition beyond those of the theorems.
-/
import Derived.Test.YthhogcknkimijaaDoorR23
import Derived.Test.YthhogcknkimijaaDoorR24
namespace Go.Proofs.YthhogcknkimijaaDoor
open Go.RowKit
set_option linter.unusedSimpArgs false
set_option linter.unusedVariables false
set_option maxRecDepth 100000
set_option maxHeartbeats 16000000
def T_mHs60:Tab:=fun f=>match T_specEnvT f with
 | some k=>some k
 | none=>T_l14Seg f
theorem T_mHs60_ok:TabOk Tryd.prog T_mHs60:=tabM T_specEnvT_ok T_l14Seg_ok
attribute [go_sem] T_mHs60 T0
def K_specRdE:Con:=⟨[.val (.str)],[⟨(.prod (.int .i64) (.prod (.row 48 (.prod (.int .i64) (.int .i64))) (.int .i64))),true⟩,⟨.bool,true⟩],fun x=>x.1.size≤1048576,fun x=>rdA envB x.1.data.toList⟩
theorem specRdE_ok:PureT Tryd.prog 11 K_specRdE:=by
  refine pure_of_body Tryd.func11 rfl ?_
  have hres:Tryd.f11.results.toList=[.cell 2 29,.tmp 3]:=rfl
  rintro⟨(s:ByteArray),_⟩ hc hL
  simp only[K_specRdE,go_sem] at hL
  simp only[K_specRdE,St.init,St.initG,Tryd.ntmps11,go_sem] 
  obtain⟨l,rfl⟩:∃l,s=bs l:=⟨s.data.toList,(bs_of s).symm⟩
  have hl:l.length≤1048576:=by have:=(show (bs l).size≤1048576 from hc);rwa [bs_size] at this
  have h32:UInt8.ofNat 32=32:=rfl
  have h328:(0:Int)≤32∧(32:Int) < 256:=by decide
  obtain⟨hW1,hW2⟩:=splB_len 32 l
  have hWm:((splB 32 l).map bs).length=(splB 32 l).length:=List.length_map ..
  have hw1:IntKind.i64.wrap (((splB 32 l).length:Int) - 1)=((splB 32 l).length:Int) - 1:=wrapI (by omega)
  have hls:(splB 32 l).getD (((splB 32 l).length:Int) - 1).toNat []=lastW (splB 32 l):=by
    unfold lastW
    congr 1
    omega
  have hml:=mid_len (splB 32 l)
  have hda:(lastW (splB 32 l)).length≤1048576:=word_at hl _
  have hdl:((lastW (splB 32 l)).drop 1).take ((lastW (splB 32 l)).length - 1)=(lastW (splB 32 l)).drop 1:=List.take_of_length_le (by rw[List.length_drop];omega)
  have hdb:((lastW (splB 32 l)).drop 1).length≤1048576:=by rw[List.length_drop];omega
  have hdc:((splB 32 l).getD 0 []).length≤1048576:=word_at hl 0
  refine oS fun _ hK1=>?_
  refine oW T_mHs60_ok ?_
  simp only[go_sem]
  refine hK1 _ ?_
  refine oS fun _ hK2=>?_
  refine oW T_mHs60_ok ?_
  simp only[h32,go_sem]
  repeat(with_reducible first|refine oA ?_|refine And.intro (by first|exact⟨hl,h328⟩) ?_)
  refine hK2 _ ?_
  refine oS fun _ hK3=>?_
  refine oS fun _ hK4=>?_
  refine oW T_mHs60_ok ?_
  simp (maxSteps:=2000000)only[hWm,hw1,hls,go_sem]
  repeat' (with_reducible first|refine oA ?_|refine And.intro (by first|exact⟨by omega,by omega⟩) ?_|refine oT (fun g2=>?_) (fun g2=>?_)|refine oE (fun g2=>?_) (fun g2=>?_))
  all_goals
   refine hK4 _ ?_
   refine AWP_cond rfl ?_ ?_
   ·
    intro c0
    try simp only[zA,zB,zC,zD,zE,zF,zG,zH,zI] at c0
    all_goals
     have hok:okA (splB 32 l)=false:=okA_f (by first|omega|exact fun ⟨a,b,c⟩=>by omega)
     refine oS fun _ hK5=>?_
     refine oW T_mHs60_ok ?_
     simp only[go_sem]
     repeat(with_reducible refine oA ?_)
     refine hK5 _ ?_
     refine AWP_ret ?_
     simp only[hres,go_sem]
     first|exact oF|(refine⟨?_,oF⟩;rw[rdA_0 hok];rfl)
   ·
    intro c0
    try simp only[zA,zB,zC,zD,zE,zF,zG,zH,zI] at c0
    all_goals
     have hok:okA (splB 32 l)=true:=okA_t (by omega) (by omega) (by omega)
     obtain⟨hg1,hg2,hg3⟩:=okA_i hok
     have hln:=spl_ne hg1
     refine AWP_skip ?_
     simp only[go_sem]
     refine hK3 _ ?_
     refine oS fun _ hK6=>?_
     refine oW T_mHs60_ok ?_
     simp (maxSteps:=2000000)only[hWm,go_sem]
     repeat(with_reducible first|refine oA ?_|refine And.intro (by first|exact hdc) ?_)
     refine hK6 _ ?_
     refine oS fun _ hK7=>?_
     refine oW T_mHs60_ok ?_
     simp (maxSteps:=2000000)only[hWm,hw1,hls,hdl,go_sem]
     repeat(with_reducible first|refine oA ?_|refine And.intro (by first|exact⟨by omega,by omega⟩|exact hdb) ?_)
     refine hK7 _ ?_
     refine oS fun _ hK8=>?_
     refine oW T_mHs60_ok ?_
     simp (maxSteps:=2000000)only[go_sem]
     repeat(with_reducible refine oA ?_)
     refine hK8 _ ?_
     refine oS fun _ hK9=>?_
     refine oS fun _ hK10=>?_
     refine oW T_mHs60_ok ?_
     simp only[go_sem]
     refine hK10 _ ?_
     refine AWP_block ?_
     refine AWP_wk (Wk_nilBox _ 244 1 9001 48 ((.prod (.int .i64) (.int .i64))) (by decide)) ?_
     simp (maxSteps:=2000000)only[go_sem]
     refine AWP_loop_k (ι:={ k:Nat // k≤(midL (splB 32 l)).length∧((midL (splB 32 l)).take k).all (fun w=>(segR w).2)=true }) (fun k=>⟨[.c (.sc (.string (bs (l)))),zz,.c (.po 132 0),zz,.c (.ow 324),zz,.c (.sc (.bool ((intR ((splB 32 l).getD 0 [])).2))),zz,.c (.sc (.bool ((intR ((lastW (splB 32 l)).drop 1)).2))),.c (.po 244 0),.c (.sc (.int .i64 ((k.1:Int)+1))),zz,zz,zz,zz,zz,zz,zz,zz,zz,zz,zz,zz,zz,zz,zz,zz,zz,zz,zz,zz,zz,zz,zz,zz,zz,zz,zz,zz,zz,zz,zz,zz,zz,zz,zz,zz,zz,zz,zz,zz,zz,zz,zz,zz,zz,zz,zz,zz,zz,zz,zz,zz,zz,zz,zz,zz,zz,zz,zz,zz,zz,zz,zz,zz,zz,zz,zz,zz,zz,zz,zz,zz,zz,zz,zz,zz,zz,zz,zz,zz,zz,zz],[(132,.box [.sc (.int .i64 (0)),.sc (.slice none 0 0),.sc (.int .i64 (0))]),(324,.row 9 (.str) ((splB 32 l).map bs) []),(244,.box [.sc (.int .i64 ((mkA (splB 32 l)).1)),.ow 9001,.sc (.int .i64 ((mkA (splB 32 l)).2.2))]),(9001,.row 48 ((.prod (.int .i64) (.int .i64))) (((midL (splB 32 l)).take k.1).map (fun w=>(segR w).1)) [])]⟩) (fun k=>(midL (splB 32 l)).length - k.1) ⟨0,by simp,by simp⟩ ?_ ?_
     ·
      refine oK ?_
      simp (maxSteps:=2000000)only[go_sem]
      all_goals((repeat' refine And.intro ?_ ?_)<;>first|rfl|(congr 1;done)|(simp;done))
     rintro⟨k,hk,hp⟩ K11 hL11
     have hnx:k < (midL (splB 32 l)).length→((midL (splB 32 l)).take k).map (fun w=>(segR w).1)++[(segR ((midL (splB 32 l)).getD k [])).1]=((midL (splB 32 l)).take (k+1)).map (fun w=>(segR w).1):=fun h=>by rw[take_getD (d:=[]) h,List.map_append];rfl
     have hmt:(((midL (splB 32 l)).take k).map (fun w=>(segR w).1)).length≤1048577:=by rw[List.length_map,List.length_take];omega
     have hwa:IntKind.i64.wrap ((k:Int)+1+1)=(k:Int)+1+1:=wrapI (by omega)
     have hkt:((k:Int)+1).toNat=k+1:=by omega
     have hsg:k+2 < (splB 32 l).length→(splB 32 l).getD (k+1) []=(midL (splB 32 l)).getD k []:=fun h=>mid_at h
     refine oS fun _ hK12=>?_
     refine oS fun _ hK13=>?_
     refine oW T_mHs60_ok ?_
     simp (maxSteps:=2000000)only[hWm,hwa,go_sem]
     refine hK13 _ ?_
     refine AWP_cond rfl ?_ ?_
     ·
      intro c1
      try simp only[zA,zB,zC,zD,zE,zF,zG,zH,zI] at c1
      all_goals
       refine AWP_skip ?_
       simp only[go_sem]
       refine hK12 _ ?_
       refine oS fun _ hK14=>?_
       refine AWP_block ?_
       refine oS fun _ hK15=>?_
       have hsg:=hsg (by omega)
       have hsl:((midL (splB 32 l)).getD k []).length≤1048576:=by rw[←hsg];exact word_at hl _
       refine oW T_mHs60_ok ?_
       simp (maxSteps:=2000000)only[hWm,hkt,hsg,go_sem]
       repeat(with_reducible first|refine oA ?_|refine And.intro (by first|exact⟨by omega,by omega⟩|exact hsl) ?_)
       refine hK15 _ ?_
       refine oS fun _ hK16=>?_
       refine oS fun _ hK17=>?_
       refine oW T_mHs60_ok ?_
       simp only[go_sem]
       repeat(with_reducible refine oA ?_)
       refine hK17 _ ?_
       refine AWP_cond rfl ?_ ?_
       ·
        intro c2
        try simp only[zA,zB,zC,zD,zE,zF,zG,zH,zI] at c2
        all_goals
         have hsn:(segR ((midL (splB 32 l)).getD k [])).2=false:=by first|assumption|simp_all
         refine oS fun _ hK18=>?_
         refine oW T_mHs60_ok ?_
         simp only[go_sem]
         repeat(with_reducible refine oA ?_)
         refine hK18 _ ?_
         refine AWP_ret ?_
         simp only[hres,go_sem]
         first|exact oF|(refine⟨?_,oF⟩;rw[rdA_1 hok (k:=k) (by omega) hsn];rfl)
       ·
        intro c2
        try simp only[zA,zB,zC,zD,zE,zF,zG,zH,zI] at c2
        all_goals
         have hsn:(segR ((midL (splB 32 l)).getD k [])).2=true:=by first|assumption|simp_all
         refine AWP_skip ?_
         simp only[go_sem]
         refine hK16 _ ?_
         refine oW T_mHs60_ok ?_
         simp (maxSteps:=2000000)only[go_sem]
         repeat(with_reducible refine oA ?_)
         refine hK14 _ ?_
         refine oW T_mHs60_ok ?_
         simp only[go_sem]
         refine hL11 ⟨k+1,by omega,all_take (d:=[]) (by omega) hp hsn⟩ _ (oK ?_) ?_
         ·
          simp (maxSteps:=2000000)only[go_sem]
          all_goals((repeat' refine And.intro ?_ ?_)<;>first|rfl|(rw[hwa];omega)|(rw[hwa];congr 1;omega)|(congr 1;exact hnx (by omega))|exact hnx (by omega)|omega)
         ·
          first|(simp only[];omega)|omega|(simp;omega)
     ·
      intro c1
      try simp only[zA,zB,zC,zD,zE,zF,zG,zH,zI] at c1
      all_goals
       refine AWP_exit ?_
       simp only[go_sem]
       refine hK9 _ ?_
       refine oS fun _ hK19=>?_
       refine oS fun _ hK20=>?_
       refine oW T_mHs60_ok ?_
       simp (maxSteps:=2000000)only[go_sem]
       repeat' (with_reducible first|refine oA ?_|refine oT (fun g14=>?_) (fun g14=>?_)|refine oE (fun g14=>?_) (fun g14=>?_))
       all_goals
        refine hK20 _ ?_
        refine AWP_cond rfl ?_ ?_
        ·
         intro c3
         try simp only[zA,zB,zC,zD,zE,zF,zG,zH,zI] at c3
         all_goals
          refine oS fun _ hK21=>?_
          refine oW T_mHs60_ok ?_
          simp only[go_sem]
          repeat(with_reducible refine oA ?_)
          refine hK21 _ ?_
          refine AWP_ret ?_
          simp only[hres,go_sem]
          first
           | exact oF
           | refine ⟨?_, oF⟩
             have hk3:(midL (splB 32 l)).take k=(midL (splB 32 l)):=List.take_of_length_le (by omega)
             rw[hk3] at hp
             rw[rdA_2 hok hp,endE_0 hln]
             · rfl
             · rintro⟨hb1,hb2⟩
               simp only[Bool.and_eq_true] at hb1
               obtain⟨hb3,hb4⟩:=hb1
               have hE:((mkA (splB 32 l)).1,(midL (splB 32 l)).map (fun w=>(segR w).1),(mkA (splB 32 l)).2.2)=(mkA (splB 32 l)):=rfl
               clear hK1 hK2 hK3 hK4 hK6 hK7 hK8 hK9 hK10 hL11 hK12 hK13 hK19 hK20 hK21
               simp_all
        ·
         intro c3
         try simp only[zA,zB,zC,zD,zE,zF,zG,zH,zI] at c3
         all_goals
          refine AWP_skip ?_
          simp only[go_sem]
          refine hK19 _ ?_
          refine oS fun _ hK22=>?_
          refine oW T_mHs60_ok ?_
          simp only[go_sem]
          repeat(with_reducible refine oA ?_)
          refine hK22 _ ?_
          refine AWP_ret ?_
          simp only[hres,go_sem]
          first
           | exact oF
           | refine ⟨?_, oF⟩
             have hk3:(midL (splB 32 l)).take k=(midL (splB 32 l)):=List.take_of_length_le (by omega)
             rw[hk3] at hp
             have hE:((mkA (splB 32 l)).1,(midL (splB 32 l)).map (fun w=>(segR w).1),(mkA (splB 32 l)).2.2)=(mkA (splB 32 l)):=rfl
             rw[rdA_2 hok hp,endE_1 hln]
             · rw[hk3];rfl
             · clear hK1 hK2 hK3 hK4 hK6 hK7 hK8 hK9 hK10 hL11 hK12 hK13 hK19 hK20 hK22;simp_all
             · rw[←hE];clear hK1 hK2 hK3 hK4 hK6 hK7 hK8 hK9 hK10 hL11 hK12 hK13 hK19 hK20 hK22;simp_all
def T_specRdE:Tab:=fun f=>if f=11 then some (.p K_specRdE) else T_mHs60 f
theorem T_specRdE_ok:TabOk Tryd.prog T_specRdE:=tabP specRdE_ok (fnOk_of Tryd.func11 rfl (by decide)) T_mHs60_ok
attribute [go_sem] T_specRdE K_specRdE
end Go.Proofs.YthhogcknkimijaaDoor
