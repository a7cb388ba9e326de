/-
  Texts of this claim, joined (part 20). No condition beyond those of the theorems.
-/
import Derived.Test.YthhogcknkimijaaDoorV16
import Derived.Test.YthhogcknkimijaaDoorV19
namespace Go.Proofs.YthhogcknkimijaaDoor
open Go.RowKit
set_option linter.unusedSimpArgs false
set_option linter.unusedVariables false
set_option maxRecDepth 100000
set_option maxHeartbeats 8000000
def K_trimP_:Con:=⟨[.val (.str),.val (.str)],[⟨.str,true⟩],fun _=>True,fun x=>bs (Lib.trimPrefix x.1.data.toList x.2.1.data.toList)⟩
theorem trimP__ok:PureT Tryd.prog 35 K_trimP_:=by
  refine pure_liftG fun ⟨(s:ByteArray),(p:ByteArray),_⟩ _ R w vs _ hv=>?_
  obtain⟨us,e,hv⟩:=vrt_sc hv
  obtain⟨us2,e2,hv⟩:=vrt_sc hv
  have e3:=vrt_nil hv
  subst e3 e2
  have e4:=arr_of e
  subst e4
  exact(Tryd.strings_TrimPrefix s p w).mono fun _ _ ⟨he,hk⟩=>⟨_,he,vr_sc _,obsOk_nil _ _,by rw[hk];exact Below.refl _ _⟩
def T_trimP_:Tab:=fun f=>if f=35 then some (.p K_trimP_) else T_implEnvT f
theorem T_trimP__ok:TabOk Tryd.prog T_trimP_:=tabP trimP__ok (fnOk_of Tryd.func35 rfl (by decide)) T_implEnvT_ok
attribute [go_sem] T_trimP_ K_trimP_
def K_cutP_:Con:=⟨[.val (.str),.val (.str)],[⟨.str,true⟩,⟨.bool,true⟩],fun _=>True,fun x=>(bs (Lib.trimPrefix x.1.data.toList x.2.1.data.toList),Lib.hasPrefix x.1.data.toList x.2.1.data.toList)⟩
theorem cutP__ok:PureT Tryd.prog 57 K_cutP_:=by
  refine pure_liftG fun ⟨(s:ByteArray),(p:ByteArray),_⟩ _ R w vs _ hv=>?_
  obtain⟨us,e,hv⟩:=vrt_sc hv
  obtain⟨us2,e2,hv⟩:=vrt_sc hv
  have e3:=vrt_nil hv
  subst e3 e2
  have e4:=arr_of e
  subst e4
  exact(Tryd.strings_CutPrefix s p w).mono fun _ _ ⟨he,hk⟩=>⟨_,he,vr_sc2 _ _,obsOk_nil _ _,by rw[hk];exact Below.refl _ _⟩
def T_cutP_:Tab:=fun f=>if f=57 then some (.p K_cutP_) else T_trimP_ f
theorem T_cutP__ok:TabOk Tryd.prog T_cutP_:=tabP cutP__ok (fnOk_of Tryd.func57 rfl (by decide)) T_trimP__ok
attribute [go_sem] T_cutP_ K_cutP_
def K_cut_:Con:=⟨[.val (.str),.val (.str)],[⟨.str,true⟩,⟨.str,true⟩,⟨.bool,true⟩],fun x=>x.1.size≤1048576,fun x=>(bs (Lib.cut x.1.data.toList x.2.1.data.toList).1,bs (Lib.cut x.1.data.toList x.2.1.data.toList).2.1,(Lib.cut x.1.data.toList x.2.1.data.toList).2.2)⟩
theorem cut__ok:PureT Tryd.prog 58 K_cut_:=by
  refine pure_liftG fun ⟨(s:ByteArray),(p:ByteArray),_⟩ hc R w vs hg hv=>?_
  have hs:s.size≤1048576:=hc
  obtain⟨m,hm⟩:=globMax hg
  obtain⟨us,e,hv⟩:=vrt_sc hv
  obtain⟨us2,e2,hv⟩:=vrt_sc hv
  have e3:=vrt_nil hv
  subst e3 e2
  have e4:=arr_of e
  subst e4
  exact(Tryd.strings_Cut s p m w (by omega) hm).mono fun _ _ ⟨he,n,hk⟩=>⟨_,he,vr_sc3 _ _ _,obsOk_nil _ _,by rw[hk];exact⟨rfl,rfl,rfl,Nat.le_refl _,fun _ _=>rfl⟩⟩
def T_cut_:Tab:=fun f=>if f=58 then some (.p K_cut_) else T_cutP_ f
theorem T_cut__ok:TabOk Tryd.prog T_cut_:=tabP cut__ok (fnOk_of Tryd.func58 rfl (by decide)) T_cutP__ok
attribute [go_sem] T_cut_ K_cut_
def K_split_:Con:=⟨[.val (.str),.val (.str)],[⟨(.row 9 (.str)),false⟩],fun x=>x.1.size≤1048576∧x.2.1.data.toList.length=1,fun x=>(splB (x.2.1.data.toList.headD 0) x.1.data.toList).map bs⟩
theorem split__ok:PureT Tryd.prog 54 K_split_:=by
  rintro⟨(s:ByteArray),(p:ByteArray),_⟩ hc R w vs hg hv
  obtain⟨hs,hp⟩:=(show s.size≤1048576∧p.data.toList.length=1 from hc)
  obtain⟨us,e,hv⟩:=vrt_sc hv
  obtain⟨us2,e2,hv⟩:=vrt_sc hv
  have e3:=vrt_nil hv
  subst e3 e2
  have e4:=arr_of e
  subst e4
  exact split_lift (P:=Tryd.prog) hs hp (fun m hm=>Tryd.strings_Split s p m w (by omega) hm (by rw[Lib.size_eq];omega)) (globMax hg)
def T_split_:Tab:=fun f=>if f=54 then some (.p K_split_) else T_cut_ f
theorem T_split__ok:TabOk Tryd.prog T_split_:=tabP split__ok (fnOk_of Tryd.func54 rfl (by decide)) T_cut__ok
attribute [go_sem] T_split_ K_split_
def K_readDec:Con:=⟨[.val (.str)],[⟨.int .i64,true⟩,⟨.bool,true⟩],fun x=>x.1.size≤1048576,fun x=>rdD x.1.data.toList⟩
theorem readDec_ok:PureT Tryd.prog 34 K_readDec:=by
  refine pure_liftG fun ⟨(s:ByteArray),_⟩ hc R w vs hg hv=>?_
  obtain⟨l,rfl⟩:∃l,s=bs l:=⟨s.data.toList,(bs_of s).symm⟩
  have hl:l.length≤1048576:=by have:=(show (bs l).size≤1048576 from hc);rwa [bs_size] at this
  obtain⟨us,e,hv⟩:=vrt_sc hv
  have e3:=vrt_nil hv
  subst e3
  have e4:=arr_of e
  subst e4
  obtain⟨t1,p1,h1⟩:=globSyn hg
  obtain⟨t2,p2,h2⟩:=globRng hg
  refine(readDec_w l hl w (tab10 hg) t1 t2 p1 p2 h1 h2).mono fun _ _ ⟨he,hk⟩=>⟨_,he,?_,obsOk_nil _ _,hk⟩
  have e5:rdD (bs l).data.toList=rdD l:=by rw[bs_data]
  show VR R _ (.tup [.c (.sc (.int .i64 (rdD (bs l).data.toList).1)),.c (.sc (.bool (rdD (bs l).data.toList).2))]) _
  rw[e5]
  exact vr_sc2 _ _
def T_readDec:Tab:=fun f=>if f=34 then some (.p K_readDec) else T_split_ f
theorem T_readDec_ok:TabOk Tryd.prog T_readDec:=tabP readDec_ok (fnOk_of Tryd.func34 rfl (by decide)) T_split__ok
attribute [go_sem] T_readDec K_readDec
def K_splitW:Con:=⟨[.val (.str)],[⟨(.row 9 (.str)),true⟩],fun x=>x.1.size≤1048576,fun x=>(wrdL x.1.data.toList).map bs⟩
theorem splitW_ok:PureT Tryd.prog 33 K_splitW:=by
  refine pure_of_body Tryd.func33 rfl ?_
  have hres:Tryd.f33.results.toList=[.tmp 2]:=rfl
  rintro⟨(s:ByteArray),_⟩ hc hL
  simp only[K_splitW,go_sem] at hL
  simp only[K_splitW,St.init,St.initG,Tryd.ntmps33,go_sem] 
  obtain⟨l,rfl⟩:∃l,s=bs l:=⟨s.data.toList,(bs_of s).symm⟩
  have hl:l.length≤1048576:=by have:=(show (bs l).size≤1048576 from hc);rwa [bs_size] at this
  obtain⟨hW1,hW2⟩:=splB_len 32 l
  have hWm:((splB 32 l).map bs).length=(splB 32 l).length:=List.length_map ..
  have h1l:[(32:UInt8)].length=1:=rfl
  refine oS fun _ hK1=>?_
  refine oW T_readDec_ok ?_
  simp only[go_sem]
  refine hK1 _ ?_
  refine oS fun _ hK2=>?_
  refine oW T_readDec_ok ?_
  simp only[go_sem]
  repeat(with_reducible refine oA ?_)
  refine hK2 _ ?_
  refine oS fun _ hK3=>?_
  refine oS fun _ hK4=>?_
  refine oW T_readDec_ok ?_
  simp only[hWm,go_sem]
  repeat(with_reducible first|refine oA ?_|refine And.intro (by first|exact⟨hl,h1l⟩|exact hl) ?_)
  refine hK4 _ ?_
  refine AWP_block ?_
  refine AWP_loop_k (ι:={ k:Nat // k≤(splB 32 l).length }) (fun k=>⟨[zz,zz,zz,.c (.ow 9001),zz,zz,zz,zz,.c (.rd [] 9 (.str) ((splB 32 l).map bs)),.c (.sc (.int .i64 ((splB 32 l).length))),.c (.sc (.int .i64 (k.1))),zz,zz,zz,zz,zz,zz,zz,zz,zz,zz,zz],[(9001,.row 9 (.str) ((((splB 32 l).take k.1).filter fun w=>!decide (w=[])).map bs) [])]⟩) (fun k=>(splB 32 l).length - k.1) ⟨0,by simp⟩ ?_ ?_
  ·
   refine oK ?_
   simp (maxSteps:=2000000)only[go_sem]
   all_goals((repeat' refine And.intro ?_ ?_)<;>first|rfl|(simp only[hWm];done)|(simp;done))
  rintro⟨k,hk⟩ K5 hL5
  have hfl:(((splB 32 l).take k).filter fun w=>!decide (w=[])).length≤1048577:=Nat.le_trans (List.length_filter_le _ _) (by rw[List.length_take];omega)
  have hfm:((((splB 32 l).take k).filter fun w=>!decide (w=[])).map bs).length=(((splB 32 l).take k).filter fun w=>!decide (w=[])).length:=List.length_map ..
  have hft:k < (splB 32 l).length→(splB 32 l).getD k []≠[]→(((splB 32 l).take k).filter fun w=>!decide (w=[]))++[(splB 32 l).getD k []]=(((splB 32 l).take (k+1)).filter fun w=>!decide (w=[])):=fun h h2=>flt_t h h2
  have hff:k < (splB 32 l).length→(splB 32 l).getD k []=[]→(((splB 32 l).take k).filter fun w=>!decide (w=[]))=(((splB 32 l).take (k+1)).filter fun w=>!decide (w=[])):=fun h h2=>flt_f h h2
  refine oS fun _ hK6=>?_
  refine oW T_readDec_ok ?_
  simp only[hWm,go_sem]
  refine hK6 _ ?_
  refine oS fun _ hK7=>?_
  refine oC rfl ?_ ?_
  ·
   intro c0
   refine AWP_skip ?_
   simp only[go_sem]
   refine hK7 _ ?_
   refine oS fun _ hK8=>?_
   refine AWP_block ?_
   refine oS fun _ hK9=>?_
   refine oW T_readDec_ok ?_
   simp only[hWm,go_sem]
   repeat(with_reducible refine oA ?_)
   refine hK9 _ ?_
   refine oS fun _ hK10=>?_
   refine oW T_readDec_ok ?_
   simp only[go_sem]
   refine hK10 _ ?_
   refine oC rfl ?_ ?_
   ·
    intro c1
    have hne:(splB 32 l).getD k []≠[]:=by first|assumption|(intro e;simp_all)
    refine oW T_readDec_ok ?_
    simp (maxSteps:=2000000)only[hfm,go_sem]
    repeat(with_reducible refine oA ?_)
    refine hK8 _ ?_
    refine oW T_readDec_ok ?_
    simp only[go_sem]
    refine hL5 ⟨k+1,by omega⟩ _ (oK ?_) ?_
    ·
     simp (maxSteps:=2000000)only[go_sem]
     all_goals((repeat' refine And.intro ?_ ?_)<;>first|rfl|exact wk (by omega)|(congr 1;rw[←hft (by omega) hne,List.map_append];rfl)|(congr 1;rw[hff (by omega) hne])|(rw[←hft (by omega) hne,List.map_append];rfl)|(rw[hff (by omega) hne]))
    ·
     first|(simp only[];omega)|omega|(simp;omega)
   intro c1
   have hne:(splB 32 l).getD k []=[]:=by first|assumption|simp_all
   refine AWP_skip ?_
   simp only[go_sem]
   refine hK8 _ ?_
   refine oW T_readDec_ok ?_
   simp only[go_sem]
   refine hL5 ⟨k+1,by omega⟩ _ (oK ?_) ?_
   ·
    simp (maxSteps:=2000000)only[go_sem]
    all_goals((repeat' refine And.intro ?_ ?_)<;>first|rfl|exact wk (by omega)|(congr 1;rw[←hft (by omega) hne,List.map_append];rfl)|(congr 1;rw[hff (by omega) hne])|(rw[←hft (by omega) hne,List.map_append];rfl)|(rw[hff (by omega) hne]))
   ·
    first|(simp only[];omega)|omega|(simp;omega)
  intro c0
  refine AWP_exit ?_
  simp only[go_sem]
  refine hK3 _ ?_
  refine oS fun _ hK11=>?_
  refine oW T_readDec_ok ?_
  simp only[go_sem]
  refine hK11 _ ?_
  refine AWP_ret ?_
  simp only[hres,go_sem]
  first
   | exact oF
   | refine ⟨?_, oF⟩
     have hk3:(splB 32 l).take k=(splB 32 l):=List.take_of_length_le (by omega)
     rw[hk3];rfl
def T_splitW:Tab:=fun f=>if f=33 then some (.p K_splitW) else T_readDec f
theorem T_splitW_ok:TabOk Tryd.prog T_splitW:=tabP splitW_ok (fnOk_of Tryd.func33 rfl (by decide)) T_readDec_ok
attribute [go_sem] T_splitW K_splitW
def K_readSeg:Con:=⟨[.val (.str)],[⟨(.prod (.int .i64) (.int .i64)),true⟩,⟨.bool,true⟩],fun x=>x.1.size≤1048576,fun x=>sgP x.1.data.toList⟩
theorem readSeg_ok:PureT Tryd.prog 36 K_readSeg:=by
  refine pure_of_body Tryd.func36 rfl ?_
  have hres:Tryd.f36.results.toList=[.cell 2 48,.tmp 3]:=rfl
  rintro⟨(s:ByteArray),_⟩ hc hL
  simp only[K_readSeg,go_sem] at hL
  simp only[K_readSeg,St.init,St.initG,Tryd.ntmps36,go_sem] 
  obtain⟨l,rfl⟩:∃l,s=bs l:=⟨s.data.toList,(bs_of s).symm⟩
  have hl:l.length≤1048576:=by have:=(show (bs l).size≤1048576 from hc);rwa [bs_size] at this
  have ht:(Lib.trimPrefix l [62]).length≤1048576:=Nat.le_trans (Lib.trimPrefix_le _ _) hl
  obtain⟨hu1,hu2⟩:=cut_le (c:=58) ht
  have hsp:=sgP_cut l
  generalize hq0:Lib.cut (Lib.trimPrefix l [62]) [58]=q0 at *
  generalize hq1:rdD q0.1=q1 at *
  generalize hq2:rdD q0.2.1=q2 at *
  refine oS fun _ hK1=>?_
  refine oW T_splitW_ok ?_
  simp only[go_sem]
  refine hK1 _ ?_
  refine oS fun _ hK2=>?_
  refine oW T_splitW_ok ?_
  simp (maxSteps:=2000000)only[go_sem]
  repeat(with_reducible refine oA ?_)
  refine hK2 _ ?_
  refine oS fun _ hK3=>?_
  refine oW T_splitW_ok ?_
  simp (maxSteps:=2000000)only[hq0,go_sem]
  repeat(with_reducible first|refine oA ?_|refine And.intro (by first|exact ht) ?_)
  refine hK3 _ ?_
  refine oS fun _ hK4=>?_
  refine oW T_splitW_ok ?_
  simp (maxSteps:=2000000)only[hq1,go_sem]
  repeat(with_reducible first|refine oA ?_|refine And.intro (by first|exact hu1) ?_)
  refine hK4 _ ?_
  refine oS fun _ hK5=>?_
  refine oW T_splitW_ok ?_
  simp (maxSteps:=2000000)only[hq2,go_sem]
  repeat(with_reducible first|refine oA ?_|refine And.intro (by first|exact hu2) ?_)
  refine hK5 _ ?_
  refine oS fun _ hK6=>?_
  refine oW T_splitW_ok ?_
  simp (maxSteps:=2000000)only[go_sem]
  repeat' (with_reducible first|refine oA ?_|refine oT (fun g5=>?_) (fun g5=>?_)|refine oE (fun g5=>?_) (fun g5=>?_))
  all_goals
   refine hK6 _ ?_
   refine AWP_ret ?_
   simp only[hres,go_sem]
   first
    | exact oF
    | refine ⟨?_, oF⟩
      rw[hsp]
      first|rfl|(clear hK1 hK2 hK3 hK4 hK5 hK6;simp_all)
def T_readSeg:Tab:=fun f=>if f=36 then some (.p K_readSeg) else T_splitW f
theorem T_readSeg_ok:TabOk Tryd.prog T_readSeg:=tabP readSeg_ok (fnOk_of Tryd.func36 rfl (by decide)) T_splitW_ok
attribute [go_sem] T_readSeg K_readSeg
end Go.Proofs.YthhogcknkimijaaDoor
