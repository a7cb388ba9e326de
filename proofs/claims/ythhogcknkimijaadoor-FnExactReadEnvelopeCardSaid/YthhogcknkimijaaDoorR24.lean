/-
  Texts of this claim, joined (part 24). No condition beyond those of the theorems.
-/
import Derived.Test.YthhogcknkimijaaDoorR11
import Derived.Test.YthhogcknkimijaaDoorR19
namespace Go.Proofs.YthhogcknkimijaaDoor
open Go.RowKit
set_option linter.unusedSimpArgs false
set_option linter.unusedVariables false
set_option maxRecDepth 100000
set_option maxHeartbeats 8000000
def K_l01Split:Con:=⟨[.val (.str),.val (.int .u8)],[⟨(.row 9 (.str)),true⟩],fun x=>x.1.size≤1048576∧0≤x.2.1∧x.2.1 < 256,fun x=>(splB (UInt8.ofNat x.2.1.toNat) x.1.data.toList).map bs⟩
theorem l01Split_ok:PureT Tryd.prog 30 K_l01Split:=by
  refine pure_of_body Tryd.func30 rfl ?_
  have hres:Tryd.f30.results.toList=[.tmp 4]:=rfl
  rintro⟨(s:ByteArray),(cc:Int),_⟩ hc hL
  simp only[K_l01Split,go_sem] at hL
  simp only[K_l01Split,St.init,St.initG,Tryd.ntmps30,go_sem] 
  obtain⟨l,rfl⟩:∃l,s=bs l:=⟨s.data.toList,(bs_of s).symm⟩
  obtain⟨hl0,hc1,hc2⟩:=(show (bs l).size≤1048576∧0≤cc∧cc < 256 from hc)
  have hl:l.length≤1048576:=by rwa [bs_size] at hl0
  refine oS fun _ hK1=>?_
  refine oW T_l14Ok_ok ?_
  simp only[go_sem]
  refine hK1 _ ?_
  refine oS fun _ hK2=>?_
  refine oW T_l14Ok_ok ?_
  simp only[go_sem]
  repeat(with_reducible refine oA ?_)
  refine hK2 _ ?_
  refine oS fun _ hK3=>?_
  refine oW T_l14Ok_ok ?_
  simp only[go_sem]
  refine hK3 _ ?_
  refine oS fun _ hK4=>?_
  refine oS fun _ hK5=>?_
  refine oW T_l14Ok_ok ?_
  simp only[go_sem]
  refine hK5 _ ?_
  refine AWP_block ?_
  refine AWP_loop_k (ι:={ p:Nat × Nat × List (List UInt8) // SplI (UInt8.ofNat cc.toNat) l p }) (fun k=>⟨[.c (.sc (.string (bs (l)))),.c (.sc (.int .u8 cc)),zz,zz,zz,.c (.ow 9001),.c (.sc (.int .i64 (k.1.2.1))),.c (.sc (.int .i64 (k.1.1))),zz,zz,zz,zz,zz,zz,zz,zz,zz,zz,zz,zz,zz,zz,zz,zz,zz,zz,zz,zz,zz,zz,zz,zz,zz,zz,zz],[(9001,.row 9 (.str) (k.1.2.2.map bs) [])]⟩) (fun k=>l.length - k.1.1) ⟨(0,0,[]),SplI.start _ _⟩ ?_ ?_
  ·
   refine oK ?_
   simp (maxSteps:=2000000)only[go_sem]
   all_goals(first|rfl|((repeat' refine And.intro ?_ ?_)<;>first|rfl|simp))
  rintro⟨⟨i,f,out⟩,hp⟩ K6 hL6
  obtain⟨hp1,hp2,hp3⟩:=hp.1
  simp only at hp1 hp2 hp3
  have hb:=byte_eq (b:=l.getD i 0) hc1 hc2
  have hml:(out.map bs).length=out.length:=List.length_map ..
  have hfin:=fun h=>hp.fin (i:=i) h
  refine oS fun _ hK7=>?_
  refine oS fun _ hK8=>?_
  refine oW T_l14Ok_ok ?_
  simp only[go_sem]
  refine hK8 _ ?_
  refine oC rfl ?_ ?_
  ·
   intro c0
   refine AWP_skip ?_
   simp only[go_sem]
   refine hK7 _ ?_
   refine oS fun _ hK9=>?_
   refine AWP_block ?_
   refine oS fun _ hK10=>?_
   refine oW T_l14Ok_ok ?_
   simp (maxSteps:=2000000)only[go_sem]
   repeat(with_reducible refine oA ?_)
   refine hK10 _ ?_
   refine oC rfl ?_ ?_
   ·
    intro c1
    have hcc:l.getD i 0=UInt8.ofNat cc.toNat:=hb.1 (by first|assumption|omega)
    refine oS fun _ hK11=>?_
    refine oW T_l14Ok_ok ?_
    simp (maxSteps:=2000000)only[hml,go_sem]
    repeat(with_reducible refine oA ?_)
    refine hK11 _ ?_
    refine oW T_l14Ok_ok ?_
    simp only[go_sem]
    refine hK9 _ ?_
    refine oW T_l14Ok_ok ?_
    simp only[go_sem]
    first|(refine hL6 ⟨(i+1,i+1,out++[(l.drop f).take (i - f)]),hp.hit (by omega) hcc⟩ _ (oK ?_) ?_)|(refine hL6 ⟨(i+1,f,out),hp.miss (by omega) hcc⟩ _ (oK ?_) ?_)
    ·
     simp (maxSteps:=2000000)only[go_sem]
     all_goals((repeat' refine And.intro ?_ ?_)<;>first|rfl|exact wk (by omega)|(congr 1;simp;done)|(simp;done))
    ·
     first|(simp only[];omega)|omega|(simp;omega)
   intro c1
   have hcc:¬l.getD i 0=UInt8.ofNat cc.toNat:=fun e=>by have:=hb.2 e;first|contradiction|omega
   refine AWP_skip ?_
   simp only[go_sem]
   refine hK9 _ ?_
   refine oW T_l14Ok_ok ?_
   simp only[go_sem]
   first|(refine hL6 ⟨(i+1,i+1,out++[(l.drop f).take (i - f)]),hp.hit (by omega) hcc⟩ _ (oK ?_) ?_)|(refine hL6 ⟨(i+1,f,out),hp.miss (by omega) hcc⟩ _ (oK ?_) ?_)
   ·
    simp (maxSteps:=2000000)only[go_sem]
    all_goals((repeat' refine And.intro ?_ ?_)<;>first|rfl|exact wk (by omega)|(congr 1;simp;done)|(simp;done))
   ·
    first|(simp only[];omega)|omega|(simp;omega)
  intro c0
  refine AWP_exit ?_
  simp only[go_sem]
  refine hK4 _ ?_
  refine oS fun _ hK12=>?_
  refine oW T_l14Ok_ok ?_
  simp (maxSteps:=2000000)only[hml,go_sem]
  repeat(with_reducible refine oA ?_)
  refine hK12 _ ?_
  refine AWP_ret ?_
  simp only[hres,go_sem]
  first|exact oF|(refine⟨?_,oF⟩;rw[←hp.fin (by omega),List.map_append];rfl)
def T_l01Split:Tab:=fun f=>if f=30 then some (.p K_l01Split) else T_l14Ok f
theorem T_l01Split_ok:TabOk Tryd.prog T_l01Split:=tabP l01Split_ok (fnOk_of Tryd.func30 rfl (by decide)) T_l14Ok_ok
attribute [go_sem] T_l01Split K_l01Split
def K_l02Int:Con:=⟨[.val (.str)],[⟨.int .i64,true⟩,⟨.bool,true⟩],fun x=>x.1.size≤1048576,fun x=>intR x.1.data.toList⟩
theorem l02Int_ok:PureT Tryd.prog 31 K_l02Int:=by
  refine pure_of_body Tryd.func31 rfl ?_
  have hres:Tryd.f31.results.toList=[.tmp 2,.tmp 3]:=rfl
  rintro⟨(s:ByteArray),_⟩ hc hL
  simp only[K_l02Int,go_sem] at hL
  simp only[K_l02Int,St.init,St.initG,Tryd.ntmps31,go_sem] 
  obtain⟨l,rfl⟩:∃l,s=bs l:=⟨s.data.toList,(bs_of s).symm⟩
  have hl:l.length≤1048576:=by have:=(show (bs l).size≤1048576 from hc);rwa [bs_size] at this
  have hdr:(l.drop 1).take (l.length - 1)=l.drop 1:=List.take_of_length_le (by rw[List.length_drop];omega)
  have hhd:=head_at l
  refine oS fun _ hK1=>?_
  refine oW T_l01Split_ok ?_
  simp only[go_sem]
  refine hK1 _ ?_
  refine oS fun _ hK2=>?_
  refine oW T_l01Split_ok ?_
  simp only[go_sem]
  refine hK2 _ ?_
  refine oS fun _ hK3=>?_
  refine oS fun _ hK4=>?_
  refine oW T_l01Split_ok ?_
  simp (maxSteps:=2000000)only[go_sem]
  repeat' (with_reducible first|refine oA ?_|refine And.intro (by first|exact lenP g2|exact lenP (by assumption)) ?_|refine oT (fun g2=>?_) (fun g2=>?_)|refine oE (fun g2=>?_) (fun g2=>?_))
  all_goals
   refine hK4 _ ?_
   refine AWP_cond rfl ?_ ?_
   ·
    intro c0
    try simp only[zA,zB,zC,zD,zE,zF,zG,zH,zI] at c0
    all_goals
     have h0:l.headD 0=45:=by rw[hhd];exact(byte_eq (c:=45) (by omega) (by omega)).1 (by first|assumption|omega)
     have htl:=tlI_t h0
     refine oW T_l01Split_ok ?_
     simp only[hdr,go_sem]
     repeat(with_reducible first|refine oA ?_|refine And.intro (by first|exact lenQ g2|exact lenQ (by assumption)) ?_)
     refine hK3 _ ?_
     refine oS fun _ hK5=>?_
     refine oS fun _ hK6=>?_
     refine oW T_l01Split_ok ?_
     simp (maxSteps:=2000000)only[go_sem]
     repeat' (with_reducible first|refine oA ?_|refine oT (fun g4=>?_) (fun g4=>?_)|refine oE (fun g4=>?_) (fun g4=>?_))
     all_goals
      refine hK6 _ ?_
      refine AWP_cond rfl ?_ ?_
      ·
       intro c1
       try simp only[zA,zB,zC,zD,zE,zF,zG,zH,zI] at c1
       all_goals
        have hno:¬(1≤(tlI l).length∧(tlI l).length≤10):=by
          rw[htl]
          first|(intro⟨a,b⟩;omega)|(rintro⟨a,b⟩;simp_all;done)
        refine oS fun _ hK7=>?_
        refine oW T_l01Split_ok ?_
        simp only[go_sem]
        refine hK7 _ ?_
        refine AWP_ret ?_
        simp only[hres,go_sem]
        first|exact oF|(refine⟨?_,oF⟩;rw[intR_no1 hno])
      ·
       intro c1
       try simp only[zA,zB,zC,zD,zE,zF,zG,zH,zI] at c1
       all_goals
        have hlen:1≤(tlI l).length∧(tlI l).length≤10:=by
          rw[htl]
          refine⟨?_,by omega⟩
          refine Nat.pos_of_ne_zero fun e=>?_
          have e0:=List.eq_nil_of_length_eq_zero e
          first|contradiction|simp_all
        refine AWP_skip ?_
        simp only[go_sem]
        refine hK5 _ ?_
        refine oS fun _ hK8=>?_
        refine oW T_l01Split_ok ?_
        simp only[go_sem]
        refine hK8 _ ?_
        refine oS fun _ hK9=>?_
        refine oS fun _ hK10=>?_
        refine oW T_l01Split_ok ?_
        simp only[go_sem]
        refine hK10 _ ?_
        refine AWP_block ?_
        refine AWP_loop_k (ι:={ k:Nat // k≤(tlI l).length∧((tlI l).take k).all dgB=true }) (fun k=>⟨[.c (.sc (.string (bs (l)))),zz,zz,zz,.c (.sc (.string (bs (tlI l)))),.c (.sc (.int .i64 ((valD ((tlI l).take k.1):Int)))),.c (.sc (.int .i64 (k.1))),zz,zz,zz,zz,zz,zz,zz,zz,zz,zz,zz,zz,zz,zz,zz,zz,zz,zz,zz,zz,zz,zz,zz,zz,zz,zz,zz,zz,zz,zz,zz,zz,zz,zz,zz,zz,zz,zz,zz,zz,zz,zz,zz,zz,zz,zz,zz,zz,zz],[]⟩) (fun k=>(tlI l).length - k.1) ⟨0,by simp,by simp⟩ ?_ ?_
        ·
         refine oK ?_
         simp (maxSteps:=2000000)only[go_sem]
         all_goals((repeat' refine And.intro ?_ ?_)<;>first|rfl|(rw[htl];done)|(congr 1;rw[htl];done)|(simp[valD];done))
        rintro⟨k,hk,hp⟩ K11 hL11
        have hv10:=valD_10 hp (by rw[List.length_take];omega)
        refine oS fun _ hK12=>?_
        refine oS fun _ hK13=>?_
        refine oW T_l01Split_ok ?_
        simp only[go_sem]
        refine hK13 _ ?_
        refine AWP_cond rfl ?_ ?_
        ·
         intro c2
         try simp only[zA,zB,zC,zD,zE,zF,zG,zH,zI] at c2
         all_goals
          refine AWP_skip ?_
          simp only[go_sem]
          refine hK12 _ ?_
          refine oS fun _ hK14=>?_
          refine AWP_block ?_
          refine oS fun _ hK15=>?_
          refine oS fun _ hK16=>?_
          refine oW T_l01Split_ok ?_
          simp (maxSteps:=2000000)only[go_sem]
          repeat' (with_reducible first|refine oA ?_|refine And.intro (by first|exact⟨by omega,by omega⟩) ?_|refine oT (fun g10=>?_) (fun g10=>?_)|refine oE (fun g10=>?_) (fun g10=>?_))
          all_goals
           refine hK16 _ ?_
           refine AWP_cond rfl ?_ ?_
           ·
            intro c3
            try simp only[zA,zB,zC,zD,zE,zF,zG,zH,zI] at c3
            all_goals
             have hdg:dgB ((tlI l).getD k 0)=false:=by
               unfold dgB
               first|(rw[decide_eq_false (by omega)];rfl)|(rw[decide_eq_false (p:=((tlI l).getD k 0).toNat≤57) (by omega),Bool.and_false])
             refine oS fun _ hK17=>?_
             refine oW T_l01Split_ok ?_
             simp only[go_sem]
             refine hK17 _ ?_
             refine AWP_ret ?_
             simp only[hres,go_sem]
             first|exact oF|(refine⟨?_,oF⟩;rw[intR_no2 (k:=k) (by omega) hdg])
           ·
            intro c3
            try simp only[zA,zB,zC,zD,zE,zF,zG,zH,zI] at c3
            all_goals
             have hdd:48≤((tlI l).getD k 0).toNat∧((tlI l).getD k 0).toNat≤57:=⟨by omega,by omega⟩
             have hdg:dgB ((tlI l).getD k 0)=true:=by unfold dgB;rw[decide_eq_true hdd.1,decide_eq_true hdd.2];rfl
             have hvt:=valD_take (l:=tlI l) (k:=k) (by omega)
             have hw1:IntKind.i64.wrap (10 * (valD ((tlI l).take k):Int))=10 * (valD ((tlI l).take k):Int):=wrapI (by omega)
             have hw2:IntKind.i64.wrap (IntKind.u8.wrap ((((tlI l).getD k 0).toNat:Int) - 48))=(((tlI l).getD k 0).toNat:Int) - 48:=by
               rw[u8_id (by omega) (by omega)]
               exact wrapI (by omega)
             have hw3:IntKind.i64.wrap (10 * (valD ((tlI l).take k):Int)+((((tlI l).getD k 0).toNat:Int) - 48))=(valD ((tlI l).take (k+1)):Int):=by
               rw[wrapI (by omega)]
               omega
             refine AWP_skip ?_
             simp only[go_sem]
             refine hK15 _ ?_
             refine oW T_l01Split_ok ?_
             simp (maxSteps:=2000000)only[hw1,hw2,hw3,go_sem]
             repeat(with_reducible refine oA ?_)
             refine hK14 _ ?_
             refine oW T_l01Split_ok ?_
             simp only[go_sem]
             refine hL11 ⟨k+1,by omega,all_take (d:=0) (by omega) hp hdg⟩ _ (oK ?_) ?_
             ·
              simp (maxSteps:=2000000)only[go_sem]
              all_goals((repeat' refine And.intro ?_ ?_)<;>first|rfl|exact wk (by omega)|(congr 1;done))
             ·
              first|(simp only[];omega)|omega|(simp;omega)
        ·
         intro c2
         try simp only[zA,zB,zC,zD,zE,zF,zG,zH,zI] at c2
         all_goals
          refine AWP_exit ?_
          simp only[go_sem]
          refine hK9 _ ?_
          refine oS fun _ hK18=>?_
          refine oS fun _ hK19=>?_
          refine oW T_l01Split_ok ?_
          simp (maxSteps:=2000000)only[go_sem]
          refine hK19 _ ?_
          refine AWP_cond rfl ?_ ?_
          ·
           intro c4
           try simp only[zA,zB,zC,zD,zE,zF,zG,zH,zI] at c4
           all_goals
            have hk2:(tlI l).take k=tlI l:=List.take_of_length_le (by omega)
            have hwn:IntKind.i64.wrap (0 - (valD (tlI l):Int))=-(valD (tlI l):Int):=by rw[hk2] at hv10;rw[wrapI (by omega)];omega
            refine oW T_l01Split_ok ?_
            simp only[hk2,hwn,go_sem]
            repeat(with_reducible refine oA ?_)
            refine hK18 _ ?_
            refine oS fun _ hK20=>?_
            refine oW T_l01Split_ok ?_
            simp only[go_sem]
            refine hK20 _ ?_
            refine AWP_ret ?_
            simp only[hres,go_sem]
            first
             | exact oF
             | refine ⟨?_, oF⟩
               have hk3:(tlI l).take k=tlI l:=List.take_of_length_le (by omega)
               rw[hk3] at hp
               rw[intR_ok hlen.1 hlen.2 hp]
               first|(rw[if_pos (by omega)];done)|(rw[if_neg (by omega)];done)|(rw[if_neg (by omega),hk3];done)|(rw[if_pos (by omega),hk3];done)
          ·
           intro c4
           try simp only[zA,zB,zC,zD,zE,zF,zG,zH,zI] at c4
           all_goals
            refine AWP_skip ?_
            simp only[go_sem]
            refine hK18 _ ?_
            refine oS fun _ hK21=>?_
            refine oW T_l01Split_ok ?_
            simp only[go_sem]
            refine hK21 _ ?_
            refine AWP_ret ?_
            simp only[hres,go_sem]
            first
             | exact oF
             | refine ⟨?_, oF⟩
               have hk3:(tlI l).take k=tlI l:=List.take_of_length_le (by omega)
               rw[hk3] at hp
               rw[intR_ok hlen.1 hlen.2 hp]
               first|(rw[if_pos (by omega)];done)|(rw[if_neg (by omega)];done)|(rw[if_neg (by omega),hk3];done)|(rw[if_pos (by omega),hk3];done)
   ·
    intro c0
    try simp only[zA,zB,zC,zD,zE,zF,zG,zH,zI] at c0
    all_goals
     have h0:¬l.headD 0=45:=by
       rw[hhd]
       first
         | (intro e;have:=(byte_eq (b:=l.getD 0 0) (c:=45) (by omega) (by omega)).2 e;first|contradiction|omega)
         | (have e0:l=[]:=by first|assumption|simp_all
            rw[e0];decide)
     have htl:=tlI_f h0
     refine AWP_skip ?_
     simp only[go_sem]
     refine hK3 _ ?_
     refine oS fun _ hK22=>?_
     refine oS fun _ hK23=>?_
     refine oW T_l01Split_ok ?_
     simp (maxSteps:=2000000)only[go_sem]
     repeat' (with_reducible first|refine oA ?_|refine oT (fun g4=>?_) (fun g4=>?_)|refine oE (fun g4=>?_) (fun g4=>?_))
     all_goals
      refine hK23 _ ?_
      refine AWP_cond rfl ?_ ?_
      ·
       intro c1
       try simp only[zA,zB,zC,zD,zE,zF,zG,zH,zI] at c1
       all_goals
        have hno:¬(1≤(tlI l).length∧(tlI l).length≤10):=by
          rw[htl]
          first|(intro⟨a,b⟩;omega)|(rintro⟨a,b⟩;simp_all;done)
        refine oS fun _ hK24=>?_
        refine oW T_l01Split_ok ?_
        simp only[go_sem]
        refine hK24 _ ?_
        refine AWP_ret ?_
        simp only[hres,go_sem]
        first|exact oF|(refine⟨?_,oF⟩;rw[intR_no1 hno])
      ·
       intro c1
       try simp only[zA,zB,zC,zD,zE,zF,zG,zH,zI] at c1
       all_goals
        have hlen:1≤(tlI l).length∧(tlI l).length≤10:=by
          rw[htl]
          refine⟨?_,by omega⟩
          refine Nat.pos_of_ne_zero fun e=>?_
          have e0:=List.eq_nil_of_length_eq_zero e
          first|contradiction|simp_all
        refine AWP_skip ?_
        simp only[go_sem]
        refine hK22 _ ?_
        refine oS fun _ hK25=>?_
        refine oW T_l01Split_ok ?_
        simp only[go_sem]
        refine hK25 _ ?_
        refine oS fun _ hK26=>?_
        refine oS fun _ hK27=>?_
        refine oW T_l01Split_ok ?_
        simp only[go_sem]
        refine hK27 _ ?_
        refine AWP_block ?_
        refine AWP_loop_k (ι:={ k:Nat // k≤(tlI l).length∧((tlI l).take k).all dgB=true }) (fun k=>⟨[.c (.sc (.string (bs (l)))),zz,zz,zz,.c (.sc (.string (bs (tlI l)))),.c (.sc (.int .i64 ((valD ((tlI l).take k.1):Int)))),.c (.sc (.int .i64 (k.1))),zz,zz,zz,zz,zz,zz,zz,zz,zz,zz,zz,zz,zz,zz,zz,zz,zz,zz,zz,zz,zz,zz,zz,zz,zz,zz,zz,zz,zz,zz,zz,zz,zz,zz,zz,zz,zz,zz,zz,zz,zz,zz,zz,zz,zz,zz,zz,zz,zz],[]⟩) (fun k=>(tlI l).length - k.1) ⟨0,by simp,by simp⟩ ?_ ?_
        ·
         refine oK ?_
         simp (maxSteps:=2000000)only[go_sem]
         all_goals((repeat' refine And.intro ?_ ?_)<;>first|rfl|(rw[htl];done)|(congr 1;rw[htl];done)|(simp[valD];done))
        rintro⟨k,hk,hp⟩ K28 hL28
        have hv10:=valD_10 hp (by rw[List.length_take];omega)
        refine oS fun _ hK29=>?_
        refine oS fun _ hK30=>?_
        refine oW T_l01Split_ok ?_
        simp only[go_sem]
        refine hK30 _ ?_
        refine AWP_cond rfl ?_ ?_
        ·
         intro c2
         try simp only[zA,zB,zC,zD,zE,zF,zG,zH,zI] at c2
         all_goals
          refine AWP_skip ?_
          simp only[go_sem]
          refine hK29 _ ?_
          refine oS fun _ hK31=>?_
          refine AWP_block ?_
          refine oS fun _ hK32=>?_
          refine oS fun _ hK33=>?_
          refine oW T_l01Split_ok ?_
          simp (maxSteps:=2000000)only[go_sem]
          repeat' (with_reducible first|refine oA ?_|refine And.intro (by first|exact⟨by omega,by omega⟩) ?_|refine oT (fun g10=>?_) (fun g10=>?_)|refine oE (fun g10=>?_) (fun g10=>?_))
          all_goals
           refine hK33 _ ?_
           refine AWP_cond rfl ?_ ?_
           ·
            intro c3
            try simp only[zA,zB,zC,zD,zE,zF,zG,zH,zI] at c3
            all_goals
             have hdg:dgB ((tlI l).getD k 0)=false:=by
               unfold dgB
               first|(rw[decide_eq_false (by omega)];rfl)|(rw[decide_eq_false (p:=((tlI l).getD k 0).toNat≤57) (by omega),Bool.and_false])
             refine oS fun _ hK34=>?_
             refine oW T_l01Split_ok ?_
             simp only[go_sem]
             refine hK34 _ ?_
             refine AWP_ret ?_
             simp only[hres,go_sem]
             first|exact oF|(refine⟨?_,oF⟩;rw[intR_no2 (k:=k) (by omega) hdg])
           ·
            intro c3
            try simp only[zA,zB,zC,zD,zE,zF,zG,zH,zI] at c3
            all_goals
             have hdd:48≤((tlI l).getD k 0).toNat∧((tlI l).getD k 0).toNat≤57:=⟨by omega,by omega⟩
             have hdg:dgB ((tlI l).getD k 0)=true:=by unfold dgB;rw[decide_eq_true hdd.1,decide_eq_true hdd.2];rfl
             have hvt:=valD_take (l:=tlI l) (k:=k) (by omega)
             have hw1:IntKind.i64.wrap (10 * (valD ((tlI l).take k):Int))=10 * (valD ((tlI l).take k):Int):=wrapI (by omega)
             have hw2:IntKind.i64.wrap (IntKind.u8.wrap ((((tlI l).getD k 0).toNat:Int) - 48))=(((tlI l).getD k 0).toNat:Int) - 48:=by
               rw[u8_id (by omega) (by omega)]
               exact wrapI (by omega)
             have hw3:IntKind.i64.wrap (10 * (valD ((tlI l).take k):Int)+((((tlI l).getD k 0).toNat:Int) - 48))=(valD ((tlI l).take (k+1)):Int):=by
               rw[wrapI (by omega)]
               omega
             refine AWP_skip ?_
             simp only[go_sem]
             refine hK32 _ ?_
             refine oW T_l01Split_ok ?_
             simp (maxSteps:=2000000)only[hw1,hw2,hw3,go_sem]
             repeat(with_reducible refine oA ?_)
             refine hK31 _ ?_
             refine oW T_l01Split_ok ?_
             simp only[go_sem]
             refine hL28 ⟨k+1,by omega,all_take (d:=0) (by omega) hp hdg⟩ _ (oK ?_) ?_
             ·
              simp (maxSteps:=2000000)only[go_sem]
              all_goals((repeat' refine And.intro ?_ ?_)<;>first|rfl|exact wk (by omega)|(congr 1;done))
             ·
              first|(simp only[];omega)|omega|(simp;omega)
        ·
         intro c2
         try simp only[zA,zB,zC,zD,zE,zF,zG,zH,zI] at c2
         all_goals
          refine AWP_exit ?_
          simp only[go_sem]
          refine hK26 _ ?_
          refine oS fun _ hK35=>?_
          refine oS fun _ hK36=>?_
          refine oW T_l01Split_ok ?_
          simp (maxSteps:=2000000)only[go_sem]
          refine hK36 _ ?_
          refine AWP_cond rfl ?_ ?_
          ·
           intro c4
           try simp only[zA,zB,zC,zD,zE,zF,zG,zH,zI] at c4
           all_goals
            have hk2:(tlI l).take k=tlI l:=List.take_of_length_le (by omega)
            have hwn:IntKind.i64.wrap (0 - (valD (tlI l):Int))=-(valD (tlI l):Int):=by rw[hk2] at hv10;rw[wrapI (by omega)];omega
            refine oW T_l01Split_ok ?_
            simp only[hk2,hwn,go_sem]
            repeat(with_reducible refine oA ?_)
            refine hK35 _ ?_
            refine oS fun _ hK37=>?_
            refine oW T_l01Split_ok ?_
            simp only[go_sem]
            refine hK37 _ ?_
            refine AWP_ret ?_
            simp only[hres,go_sem]
            first
             | exact oF
             | refine ⟨?_, oF⟩
               have hk3:(tlI l).take k=tlI l:=List.take_of_length_le (by omega)
               rw[hk3] at hp
               rw[intR_ok hlen.1 hlen.2 hp]
               first|(rw[if_pos (by omega)];done)|(rw[if_neg (by omega)];done)|(rw[if_neg (by omega),hk3];done)|(rw[if_pos (by omega),hk3];done)
          ·
           intro c4
           try simp only[zA,zB,zC,zD,zE,zF,zG,zH,zI] at c4
           all_goals
            refine AWP_skip ?_
            simp only[go_sem]
            refine hK35 _ ?_
            refine oS fun _ hK38=>?_
            refine oW T_l01Split_ok ?_
            simp only[go_sem]
            refine hK38 _ ?_
            refine AWP_ret ?_
            simp only[hres,go_sem]
            first
             | exact oF
             | refine ⟨?_, oF⟩
               have hk3:(tlI l).take k=tlI l:=List.take_of_length_le (by omega)
               rw[hk3] at hp
               rw[intR_ok hlen.1 hlen.2 hp]
               first|(rw[if_pos (by omega)];done)|(rw[if_neg (by omega)];done)|(rw[if_neg (by omega),hk3];done)|(rw[if_pos (by omega),hk3];done)
def T_l02Int:Tab:=fun f=>if f=31 then some (.p K_l02Int) else T_l01Split f
theorem T_l02Int_ok:TabOk Tryd.prog T_l02Int:=tabP l02Int_ok (fnOk_of Tryd.func31 rfl (by decide)) T_l01Split_ok
attribute [go_sem] T_l02Int K_l02Int
def K_l14Seg:Con:=⟨[.val (.str)],[⟨(.prod (.int .i64) (.int .i64)),true⟩,⟨.bool,true⟩],fun x=>x.1.size≤1048576,fun x=>segR x.1.data.toList⟩
theorem l14Seg_ok:PureT Tryd.prog 32 K_l14Seg:=by
  refine pure_of_body Tryd.func32 rfl ?_
  have hres:Tryd.f32.results.toList=[.cell 2 48,.tmp 3]:=rfl
  rintro⟨(s:ByteArray),_⟩ hc hL
  simp only[K_l14Seg,go_sem] at hL
  simp only[K_l14Seg,St.init,St.initG,Tryd.ntmps32,go_sem] 
  obtain⟨l,rfl⟩:∃l,s=bs l:=⟨s.data.toList,(bs_of s).symm⟩
  have hl:l.length≤1048576:=by have:=(show (bs l).size≤1048576 from hc);rwa [bs_size] at this
  refine oS fun _ hK1=>?_
  refine oW T_l02Int_ok ?_
  simp only[go_sem]
  refine hK1 _ ?_
  refine oS fun _ hK2=>?_
  refine oS fun _ hK3=>?_
  refine oW T_l02Int_ok ?_
  simp only[go_sem]
  refine hK3 _ ?_
  refine AWP_block ?_
  refine AWP_loop_k (ι:={ k:Nat // 1≤k∧¬(58:UInt8)∈(l.drop 1).take (k - 1) }) (fun k=>⟨[.c (.sc (.string (bs (l)))),zz,.c (.po 132 0),zz,.c (.sc (.int .i64 (k.1))),zz,zz,zz,zz,zz,zz,zz,zz,zz,zz,zz,zz,zz,zz,zz,zz,zz,zz,zz,zz,zz,zz,zz,zz,zz,zz,zz,zz,zz,zz,zz,zz,zz,zz,zz,zz,zz],[(132,.box [.sc (.int .i64 (0)),.sc (.int .i64 (0))])]⟩) (fun k=>l.length - k.1) ⟨1,by omega,by simp⟩ ?_ ?_
  ·
   refine oK ?_
   simp (maxSteps:=2000000)only[go_sem]
   all_goals(first|rfl|((repeat' refine And.intro ?_ ?_)<;>first|rfl|simp))
  rintro⟨k,hk,hp⟩ K4 hL4
  refine oS fun _ hK5=>?_
  refine oS fun _ hK6=>?_
  refine oW T_l02Int_ok ?_
  simp only[go_sem]
  refine hK6 _ ?_
  refine oC rfl ?_ ?_
  ·
   intro c0
   refine AWP_skip ?_
   simp only[go_sem]
   refine hK5 _ ?_
   refine oS fun _ hK7=>?_
   refine AWP_block ?_
   refine oS fun _ hK8=>?_
   refine oW T_l02Int_ok ?_
   simp only[go_sem]
   repeat(with_reducible refine oA ?_)
   refine hK8 _ ?_
   refine oC rfl ?_ ?_
   ·
    intro c1
    have hcc:l.getD k 0=58:=(byte_eq (b:=l.getD k 0) (c:=58) (by omega) (by omega)).1 (by first|assumption|omega)
    have hkl:k < l.length:=by omega
    have hd1:((l.drop 1).take (k - 1)).length≤1048576:=by rw[List.length_take,List.length_drop];omega
    have hd2:(l.drop (k+1)).take (l.length - (k+1))=l.drop (k+1):=List.take_of_length_le (by rw[List.length_drop];omega)
    have hd3:(l.drop (k+1)).length≤1048576:=by rw[List.length_drop];omega
    have hkt:((k:Int)+1).toNat=k+1:=by omega
    have hkw:IntKind.i64.wrap ((k:Int)+1)=(k:Int)+1:=wrapI (by omega)
    generalize hq1:intR ((l.drop 1).take (k - 1))=q1 at *
    generalize hq2:intR (l.drop (k+1))=q2 at *
    refine oS fun _ hK9=>?_
    refine oW T_l02Int_ok ?_
    simp (maxSteps:=2000000)only[hq1,go_sem]
    repeat(with_reducible first|refine oA ?_|refine And.intro (by first|exact⟨by omega,by omega⟩|exact hd1) ?_)
    refine hK9 _ ?_
    refine oS fun _ hK10=>?_
    refine oW T_l02Int_ok ?_
    simp (maxSteps:=2000000)only[hkw,hkt,hd2,hq2,go_sem]
    repeat(with_reducible first|refine oA ?_|refine And.intro (by first|exact⟨by omega,by omega⟩|exact hd3) ?_)
    refine hK10 _ ?_
    refine oS fun _ hK11=>?_
    refine oW T_l02Int_ok ?_
    simp (maxSteps:=2000000)only[go_sem]
    repeat' (with_reducible first|refine oA ?_|refine oT (fun g7=>?_) (fun g7=>?_)|refine oE (fun g7=>?_) (fun g7=>?_))
    all_goals
     refine hK11 _ ?_
     refine AWP_ret ?_
     simp only[hres,go_sem]
     first
      | exact oF
      | refine ⟨?_, oF⟩
        rw[segR_hit hk hkl hcc hp,hq1,hq2]
        first|rfl|(clear hK1 hK2 hK3 hL4 hK5 hK6 hK7 hK8 hK9 hK10 hK11;simp_all)
   intro c1
   have hcc:¬l.getD k 0=58:=fun e=>by have:=(byte_eq (b:=l.getD k 0) (c:=58) (by omega) (by omega)).2 e;first|contradiction|omega
   refine AWP_skip ?_
   simp only[go_sem]
   refine hK7 _ ?_
   refine oW T_l02Int_ok ?_
   simp only[go_sem]
   refine hL4 ⟨k+1,by omega,seg_next hk (by omega) hcc hp⟩ _ (oK ?_) ?_
   ·
    simp (maxSteps:=2000000)only[go_sem]
    all_goals((repeat' refine And.intro ?_ ?_)<;>first|rfl|exact wk (by omega)|(congr 1;done))
   ·
    first|(simp only[];omega)|omega|(simp;omega)
  intro c0
  refine AWP_exit ?_
  simp only[go_sem]
  refine hK2 _ ?_
  refine oS fun _ hK12=>?_
  refine oW T_l02Int_ok ?_
  simp only[go_sem]
  repeat(with_reducible refine oA ?_)
  refine hK12 _ ?_
  refine AWP_ret ?_
  simp only[hres,go_sem]
  first|exact oF|(refine⟨?_,oF⟩;rw[segR_none (k:=k) (by omega) hp])
def T_l14Seg:Tab:=fun f=>if f=32 then some (.p K_l14Seg) else T_l02Int f
theorem T_l14Seg_ok:TabOk Tryd.prog T_l14Seg:=tabP l14Seg_ok (fnOk_of Tryd.func32 rfl (by decide)) T_l02Int_ok
attribute [go_sem] T_l14Seg K_l14Seg
end Go.Proofs.YthhogcknkimijaaDoor
