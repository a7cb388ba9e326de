/-
  Texts of this claim, joined (part 21). No condition beyond those of the theorems.
-/
import Derived.Test.YthhogcknkimijaaDoorV20
namespace Go.Proofs.YthhogcknkimijaaDoor
open Go.RowKit
set_option linter.unusedSimpArgs false
set_option linter.unusedVariables false
set_option maxRecDepth 100000
set_option maxHeartbeats 16000000
def K_implRdE:Con:=⟨[.val (.str)],[⟨(.prod (.int .i64) (.prod (.row 48 (.prod (.int .i64) (.int .i64))) (.int .i64))),true⟩,⟨.bool,true⟩],fun x=>x.1.size≤1048576,fun x=>rdA envB x.1.data.toList⟩
theorem implRdE_ok:PureT Tryd.prog 12 K_implRdE:=by
  refine pure_of_body Tryd.func12 rfl ?_
  have hres:Tryd.f12.results.toList=[.cell 2 29,.tmp 3]:=rfl
  rintro⟨(s:ByteArray),_⟩ hc hL
  simp only[K_implRdE,go_sem] at hL
  simp only[K_implRdE,St.init,St.initG,Tryd.ntmps12,go_sem] 
  obtain⟨l,rfl⟩:∃l,s=bs l:=⟨s.data.toList,(bs_of s).symm⟩
  have hl:l.length≤1048576:=by have:=(show (bs l).size≤1048576 from hc);rwa [bs_size] at this
  have hW1:=wrd_len l
  have hWm:((wrdL l).map bs).length=(wrdL l).length:=List.length_map ..
  have hw1:IntKind.i64.wrap (((wrdL l).length:Int) - 1)=((wrdL l).length:Int) - 1:=wrapI (by omega)
  have hls:(wrdL l).getD (((wrdL l).length:Int) - 1).toNat []=lastW (wrdL l):=by
    unfold lastW
    congr 1
    omega
  have hml:=mid_len (wrdL l)
  have hda:(lastW (wrdL l)).length≤1048576:=wrd_at hl _
  have hdb:(Lib.trimPrefix (lastW (wrdL l)) [46]).length≤1048576:=Nat.le_trans (Lib.trimPrefix_le _ _) hda
  have hdc:((wrdL l).getD 0 []).length≤1048576:=wrd_at hl 0
  have hmd:2≤(wrdL l).length→(((wrdL l).map bs).take (((wrdL l).length:Int) - 1).toNat).drop 1=(midL (wrdL l)).map bs:=fun h=>mid_drop h
  have hmm:((midL (wrdL l)).map bs).length=(midL (wrdL l)).length:=List.length_map ..
  refine oS fun _ hK1=>?_
  refine oW T_readSeg_ok ?_
  simp only[go_sem]
  refine hK1 _ ?_
  refine oS fun _ hK2=>?_
  refine oW T_readSeg_ok ?_
  simp only[go_sem]
  repeat(with_reducible refine oA ?_)
  refine hK2 _ ?_
  refine oS fun _ hK3=>?_
  refine oW T_readSeg_ok ?_
  simp only[hWm,hw1,go_sem]
  refine hK3 _ ?_
  refine oS fun _ hK4=>?_
  refine oS fun _ hK5=>?_
  refine oW T_readSeg_ok ?_
  simp only[go_sem]
  refine hK5 _ ?_
  refine oC rfl ?_ ?_
  ·
   intro c0
   have hok:¬2≤(wrdL l).length:=by omega
   refine oS fun _ hK6=>?_
   refine oW T_readSeg_ok ?_
   simp only[go_sem]
   repeat(with_reducible refine oA ?_)
   refine hK6 _ ?_
   refine AWP_ret ?_
   simp only[hres,go_sem]
   first|exact oF|(refine⟨?_,oF⟩;rw[rd_both,rdP_0 hok];rfl)
  intro c0
  have hok:2≤(wrdL l).length:=by omega
  have hmd:=hmd hok
  have hln:=wrd_ne hok
  refine AWP_skip ?_
  simp only[go_sem]
  refine hK4 _ ?_
  refine oS fun _ hK7=>?_
  refine oW T_readSeg_ok ?_
  simp only[go_sem]
  repeat(with_reducible refine oA ?_)
  refine hK7 _ ?_
  refine oS fun _ hK8=>?_
  refine oW T_readSeg_ok ?_
  simp only[go_sem]
  refine hK8 _ ?_
  refine oS fun _ hK9=>?_
  refine oW T_readSeg_ok ?_
  simp (maxSteps:=2000000)only[hWm,go_sem]
  repeat(with_reducible first|refine oA ?_|refine And.intro (by first|exact⟨by omega,by omega⟩|exact hdc) ?_)
  refine hK9 _ ?_
  refine oS fun _ hK10=>?_
  refine oW T_readSeg_ok ?_
  simp (maxSteps:=2000000)only[hWm,hw1,hls,go_sem]
  repeat(with_reducible first|refine oA ?_|refine And.intro (by first|exact⟨by omega,by omega⟩|exact hdb) ?_)
  refine hK10 _ ?_
  refine oS fun _ hK11=>?_
  refine oS fun _ hK12=>?_
  refine oW T_readSeg_ok ?_
  simp (maxSteps:=2000000)only[hWm,hmd,hmm,go_sem]
  repeat(with_reducible first|refine oA ?_|refine And.intro (by first|exact⟨by omega,by omega,by omega⟩) ?_)
  refine hK12 _ ?_
  refine AWP_block ?_
  refine AWP_wk (Wk_nilBox _ 196 1 9001 48 ((.prod (.int .i64) (.int .i64))) (by decide)) ?_
  simp (maxSteps:=2000000)only[go_sem]
  refine AWP_loop_k (ι:={ k:Nat // k≤(midL (wrdL l)).length∧((midL (wrdL l)).take k).all (fun w=>(sgP w).2)=true }) (fun k=>⟨[.c (.sc (.string (bs (l)))),zz,.c (.po 132 0),zz,zz,zz,.c (.po 196 0),.c (.sc (.bool ((rdD ((wrdL l).getD 0 [])).2))),.c (.sc (.bool ((rdD (Lib.trimPrefix (lastW (wrdL l)) [46])).2))),zz,zz,zz,zz,zz,zz,zz,zz,zz,zz,zz,zz,zz,zz,zz,zz,zz,zz,zz,zz,zz,zz,zz,zz,zz,zz,zz,zz,zz,zz,zz,zz,zz,.c (.rd [324] 9 .str ((midL (wrdL l)).map bs)),.c (.sc (.int .i64 ((midL (wrdL l)).length))),.c (.sc (.int .i64 (k.1))),zz,zz,zz,zz,zz,zz,zz,zz,zz,zz,zz,zz,zz,zz,zz,zz,zz,zz,zz,zz,zz,zz,zz,zz,zz,zz,zz,zz,zz,zz,zz,zz,zz,zz,zz,zz,zz],[(132,.box [.sc (.int .i64 (0)),.sc (.slice none 0 0),.sc (.int .i64 (0))]),(324,.row 9 (.str) ((wrdL l).map bs) []),(196,.box [.sc (.int .i64 ((mkP' (wrdL l)).1)),.ow 9001,.sc (.int .i64 ((mkP' (wrdL l)).2.2))]),(9001,.row 48 ((.prod (.int .i64) (.int .i64))) (((midL (wrdL l)).take k.1).map (fun w=>(sgP w).1)) [])]⟩) (fun k=>(midL (wrdL l)).length - k.1) ⟨0,by simp,by simp⟩ ?_ ?_
  ·
   refine oK ?_
   simp (maxSteps:=2000000)only[go_sem]
   all_goals((repeat' refine And.intro ?_ ?_)<;>first|rfl|(congr 1;done)|(simp;done))
  rintro⟨k,hk,hp⟩ K13 hL13
  have hnx:k < (midL (wrdL l)).length→((midL (wrdL l)).take k).map (fun w=>(sgP w).1)++[(sgP ((midL (wrdL l)).getD k [])).1]=((midL (wrdL l)).take (k+1)).map (fun w=>(sgP w).1):=fun h=>by rw[take_getD (d:=[]) h,List.map_append];rfl
  have hmt:(((midL (wrdL l)).take k).map (fun w=>(sgP w).1)).length≤1048577:=by rw[List.length_map,List.length_take];omega
  refine oS fun _ hK14=>?_
  refine oW T_readSeg_ok ?_
  simp only[go_sem]
  refine hK14 _ ?_
  refine oS fun _ hK15=>?_
  refine oC rfl ?_ ?_
  ·
   intro c1
   refine AWP_skip ?_
   simp only[go_sem]
   refine hK15 _ ?_
   refine oS fun _ hK16=>?_
   refine AWP_block ?_
   refine oS fun _ hK17=>?_
   refine oW T_readSeg_ok ?_
   simp only[hmm,go_sem]
   repeat(with_reducible refine oA ?_)
   refine hK17 _ ?_
   refine oS fun _ hK18=>?_
   have hsl:((midL (wrdL l)).getD k []).length≤1048576:=midw_at hl k
   refine oW T_readSeg_ok ?_
   simp (maxSteps:=2000000)only[go_sem]
   repeat(with_reducible first|refine oA ?_|refine And.intro (by first|exact hsl) ?_)
   refine hK18 _ ?_
   refine oS fun _ hK19=>?_
   refine oS fun _ hK20=>?_
   refine oW T_readSeg_ok ?_
   simp only[go_sem]
   repeat(with_reducible refine oA ?_)
   refine hK20 _ ?_
   refine oC rfl ?_ ?_
   ·
    intro c2
    have hsn:(sgP ((midL (wrdL l)).getD k [])).2=false:=by first|assumption|simp_all
    refine oS fun _ hK21=>?_
    refine oW T_readSeg_ok ?_
    simp only[go_sem]
    repeat(with_reducible refine oA ?_)
    refine hK21 _ ?_
    refine AWP_ret ?_
    simp only[hres,go_sem]
    first|exact oF|(refine⟨?_,oF⟩;rw[rd_both,rdP_1 hok (k:=k) (by omega) hsn];rfl)
   intro c2
   have hsn:(sgP ((midL (wrdL l)).getD k [])).2=true:=by first|assumption|simp_all
   refine AWP_skip ?_
   simp only[go_sem]
   refine hK19 _ ?_
   refine oW T_readSeg_ok ?_
   simp (maxSteps:=2000000)only[go_sem]
   repeat(with_reducible refine oA ?_)
   refine hK16 _ ?_
   refine oW T_readSeg_ok ?_
   simp only[go_sem]
   refine hL13 ⟨k+1,by omega,all_take (d:=[]) (by omega) hp hsn⟩ _ (oK ?_) ?_
   ·
    simp (maxSteps:=2000000)only[go_sem]
    all_goals((repeat' refine And.intro ?_ ?_)<;>first|rfl|exact wk (by omega)|(congr 1;exact hnx (by omega))|exact hnx (by omega)|omega)
   ·
    first|(simp only[];omega)|omega|(simp;omega)
  intro c1
  refine AWP_exit ?_
  simp only[go_sem]
  refine hK11 _ ?_
  refine oS fun _ hK22=>?_
  refine oS fun _ hK23=>?_
  refine oW T_readSeg_ok ?_
  simp (maxSteps:=2000000)only[go_sem]
  repeat' (with_reducible first|refine oA ?_|refine oT (fun g17=>?_) (fun g17=>?_)|refine oE (fun g17=>?_) (fun g17=>?_))
  all_goals
   refine hK23 _ ?_
   refine AWP_cond rfl ?_ ?_
   ·
    intro c3
    try simp only[zA,zB,zC,zD,zE,zF,zG,zH,zI] at c3
    all_goals
     refine oS fun _ hK24=>?_
     refine oW T_readSeg_ok ?_
     simp only[go_sem]
     repeat(with_reducible refine oA ?_)
     refine hK24 _ ?_
     refine AWP_ret ?_
     simp only[hres,go_sem]
     first
      | exact oF
      | refine ⟨?_, oF⟩
        have hk3:(midL (wrdL l)).take k=(midL (wrdL l)):=List.take_of_length_le (by omega)
        rw[hk3] at hp
        rw[rd_both,rdP_2 hok hp,endE_0 hln]
        · rfl
        · rintro⟨hb1,hb2⟩
          simp only[Bool.and_eq_true] at hb1
          obtain⟨hb3,hb4⟩:=hb1
          have hE:((mkP' (wrdL l)).1,(midL (wrdL l)).map (fun w=>(sgP w).1),(mkP' (wrdL l)).2.2)=(mkP' (wrdL l)):=rfl
          have hbe:envB (mkP' (wrdL l))=true:=envT_ne hln hb2
          clear hK1 hK2 hK3 hK4 hK5 hK7 hK8 hK9 hK10 hK11 hK12 hL13 hK14 hK15 hK22 hK23 hK24
          simp_all
   ·
    intro c3
    try simp only[zA,zB,zC,zD,zE,zF,zG,zH,zI] at c3
    all_goals
     refine AWP_skip ?_
     simp only[go_sem]
     refine hK22 _ ?_
     refine oS fun _ hK25=>?_
     refine oW T_readSeg_ok ?_
     simp only[go_sem]
     repeat(with_reducible refine oA ?_)
     refine hK25 _ ?_
     refine AWP_ret ?_
     simp only[hres,go_sem]
     first
      | exact oF
      | refine ⟨?_, oF⟩
        have hk3:(midL (wrdL l)).take k=(midL (wrdL l)):=List.take_of_length_le (by omega)
        rw[hk3] at hp
        have hE:((mkP' (wrdL l)).1,(midL (wrdL l)).map (fun w=>(sgP w).1),(mkP' (wrdL l)).2.2)=(mkP' (wrdL l)):=rfl
        rw[rd_both,rdP_2 hok hp,endE_1 hln]
        · rw[hk3];rfl
        · clear hK1 hK2 hK3 hK4 hK5 hK7 hK8 hK9 hK10 hK11 hK12 hL13 hK14 hK15 hK22 hK23 hK25;simp_all
        · rw[←hE];clear hK1 hK2 hK3 hK4 hK5 hK7 hK8 hK9 hK10 hK11 hK12 hL13 hK14 hK15 hK22 hK23 hK25;simp_all
def T_implRdE:Tab:=fun f=>if f=12 then some (.p K_implRdE) else T_readSeg f
theorem T_implRdE_ok:TabOk Tryd.prog T_implRdE:=tabP implRdE_ok (fnOk_of Tryd.func12 rfl (by decide)) T_readSeg_ok
attribute [go_sem] T_implRdE K_implRdE
end Go.Proofs.YthhogcknkimijaaDoor
