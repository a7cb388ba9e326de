/-
  Texts of this claim, joined (part 49). No condition beyond those of the theorems.
-/
import Derived.Test.YtflaacndokbddaaGreatVd24
import Derived.Test.YtflaacndokbddaaGreatVd39
import Derived.Test.YtflaacndokbddaaGreatVd40
import Derived.Test.YtflaacndokbddaaGreatVd48
import Derived.Test.YtflaacndokbddaaGreatVd23
namespace Go.Proofs.YtflaacndokbddaaGreat
open Go.RowKit
set_option linter.unusedSimpArgs false
set_option linter.unusedVariables false
set_option maxRecDepth 100000
set_option maxHeartbeats 16000000
def T_mHx220:Tab:=fun f=>match T_e8Inputs f with
 | some k=>some k
 | none=>T_implIsLin f
theorem T_mHx220_ok:TabOk Tryz.prog T_mHx220:=tabM T_e8Inputs_ok T_implIsLin_ok
attribute [go_sem] T_mHx220 T0
def T_mHx221:Tab:=fun f=>match T_mHx220 f with
 | some k=>some k
 | none=>T_v8Long f
theorem T_mHx221_ok:TabOk Tryz.prog T_mHx221:=tabM T_mHx220_ok T_v8Long_ok
attribute [go_sem] T_mHx221 T0
def T_mHx222:Tab:=fun f=>match T_mHx221 f with
 | some k=>some k
 | none=>T_specRender f
theorem T_mHx222_ok:TabOk Tryz.prog T_mHx222:=tabM T_mHx221_ok T_specRender_ok
attribute [go_sem] T_mHx222 T0
def K_lawFnLin:Con:=⟨[.val ((.row 5 (.int .u8))),.val ((.row 5 (.int .u8)))],[⟨.bool,true⟩],fun x=>(∀ b∈(x.1:List Int),0≤b∧b≤255)∧∀ b∈(x.2.1:List Int),0≤b∧b≤255,fun _=>true⟩
theorem lawFnLin_ok : PureT Tryz.prog 5 K_lawFnLin := by
  refine pure_of_body Tryz.func5 rfl ?_
  have hres:Tryz.f5.results.toList=[.tmp 4]:=rfl
  rintro ⟨(cd:List Int),(mr:List Int),_⟩ hc hL
  simp only[K_lawFnLin,go_sem] at hL
  simp only[K_lawFnLin,St.init,St.initG,Tryz.ntmps5,go_sem] 
  obtain ⟨hcd,hmr⟩:=(show (∀ b∈cd,0≤b∧b≤255)∧∀ b∈mr,0≤b∧b≤255 from hc)
  obtain ⟨hP0,hL0⟩:=linC_lin hcd
  have hf0:=fun x=>fl_of (x:=x) hcd hmr
  have hf5:=fl_5 hcd
  have hp02:=(linC_ok hcd).2.2.1
  rcases hC:linC cd with ⟨pi,ts,ns,os⟩
  rw [hC] at hP0 hL0 hf0 hf5 hp02
  rcases hlr:linR (pi,ts,ns,os) with ⟨⟨ni,la,lb,lc,ld⟩,ec⟩
  obtain ⟨hec,hX0⟩:=linR_x hlr
  have hsc:scR (pi,ts,ns,os)=((cntT (pi,ts,ns,os):Int),0):=scR_t hP0
  have hp1:0≤pi∧pi≤4:=by have h1:1≤pi∧pi≤2:=hp02; omega
  have hmi:(∀ b∈mr,0≤b∧b≤255)∧(0≤pi∧pi≤4):=⟨hmr,hp1⟩
  obtain ⟨ins,hins⟩ :∃ins,inpL mr (Int.toNat pi)=ins:=⟨_,rfl⟩
  refine oS fun _ hK1=>?_
  refine oW T_mHx222_ok ?_
  simp only[go_sem]
  refine hK1 _ ?_
  refine oS fun _ hK2=>?_
  refine oS fun _ hK3=>?_
  refine oW T_mHx222_ok ?_
  simp only[go_sem]
  repeat (with_reducible refine oA ?_)
  refine hK3 _ ?_
  refine oC rfl ?_ ?_
  ·
   intro c0
   refine oS fun _ hK4=>?_
   refine oW T_mHx222_ok ?_
   simp only[go_sem]
   refine hK4 _ ?_
   refine AWP_ret ?_
   simp only[hres,go_sem]
   first | exact oF | (refine ⟨?_,oF⟩; first | rfl | done)
  intro c0
  refine AWP_skip ?_
  simp only[go_sem]
  refine hK2 _ ?_
  refine oS fun _ hK5=>?_
  refine oW T_mHx222_ok ?_
  simp only[List.nodup_cons,List.nodup_nil,List.not_mem_nil,not_false_eq_true,hC,go_sem]
  repeat (with_reducible first | refine oA ?_ | refine And.intro (by first | exact hcd) ?_)
  refine hK5 _ ?_
  refine oS fun _ hK6=>?_
  refine oW T_mHx222_ok ?_
  simp (maxSteps:=2000000)only[List.nodup_cons,List.nodup_nil,List.not_mem_nil,not_false_eq_true,hlr,go_sem]
  repeat (with_reducible refine oA ?_)
  refine hK6 _ ?_
  refine oS fun _ hK7=>?_
  refine oW T_mHx222_ok ?_
  simp (maxSteps:=2000000)only[hsc,go_sem]
  repeat (with_reducible refine oA ?_)
  refine hK7 _ ?_
  refine oS fun _ hK8=>?_
  refine oS fun _ hK9=>?_
  refine oW T_mHx222_ok ?_
  simp (maxSteps:=2000000)only[hP0,hL0,Bool.and_self,go_sem]
  repeat' (with_reducible first | refine oA ?_ | refine oT (fun g6=>?_) (fun g6=>?_) | refine oE (fun g6=>?_) (fun g6=>?_))
  all_goals
   refine hK9 _ ?_
   refine AWP_cond rfl ?_ ?_
   ·
    intro c1
    try simp only[zA,zB,zC,zD,zE,zF,zG,zH,zI] at c1
    all_goals
     refine oS fun _ hK10=>?_
     refine oW T_mHx222_ok ?_
     simp (maxSteps:=2000000)only[go_sem]
     repeat' (with_reducible first | refine oA ?_ | refine oT (fun g7=>?_) (fun g7=>?_) | refine oE (fun g7=>?_) (fun g7=>?_))
     all_goals
      refine hK10 _ ?_
      refine AWP_ret ?_
      simp only[hres,go_sem]
      first
       | exact oF
       | refine ⟨?_,oF⟩
         have hne:¬ linCode (pi,ts,ns,os)=0:=by rw [← hec]; first | assumption | (intro z; rw [z] at c1; simp at c1)
         obtain ⟨e5,e24⟩:=hf5 hne
         first | exact decide_eq_true (by omega) | done | rfl
       | (exact absurd (hf5 (by rw [← hec]; assumption)).1 (by rw [← hec]; assumption))
   ·
    intro c1
    try simp only[zA,zB,zC,zD,zE,zF,zG,zH,zI] at c1
    all_goals
     have hl0:linCode (pi,ts,ns,os)=0:=by first | omega | (clear hK1 hK2 hK3 hK5 hK6 hK7 hK8 hK9; simp_all)
     have hX:=hX0 hl0
     have hfo:=hf0 _ hl0 hX
     have hfo:flOk (pi,ts,ns,os) (ni,la,lb,lc,ld) (inpL mr (Int.toNat pi)):=hfo
     rw [hins] at hfo
     have hcn:=fl_n hP0 hX
     have hcn:cntT (pi,ts,ns,os)=la.length:=hcn
     have hni:ni=pi:=hfo.i
     have hlo0:lc.length=os.length:=hfo.o
     have hn24:la.length≤24:=hfo.n
     have ho4:os.length≤4:=hfo.o4
     have hvl:linOkB (ni,la,lb,lc,ld)=true:=linOkB_t hfo.w hfo.n (by show lc.length≤4; omega)
     have hrr:renderR (pi,ts,ns,os) ins 12=((renderL (pi,ts,ns,os) ins 12),0):=renderR_0 hP0 (by rw [sigB_iff.2 hfo.hin]; rfl)
     have hil:(ins.length:Int)=pi:=hfo.hin.1
     have hnt:Int.toNat (cntT (pi,ts,ns,os):Int)=la.length:=by omega
     have hyl:(renderL (pi,ts,ns,os) ins 12).length=os.length:=hfo.rlen
     refine AWP_skip ?_
     simp only[go_sem]
     refine hK8 _ ?_
     refine oS fun _ hK11=>?_
     refine oS fun _ hK12=>?_
     refine oW T_mHx222_ok ?_
     simp (maxSteps:=2000000)only[List.nodup_cons,List.nodup_nil,List.not_mem_nil,not_false_eq_true,hvl,go_sem]
     repeat' (with_reducible first | refine oA ?_ | refine oT (fun g8=>?_) (fun g8=>?_) | refine oE (fun g8=>?_) (fun g8=>?_))
     all_goals
      refine hK12 _ ?_
      refine AWP_cond rfl ?_ ?_
      ·
       intro c2
       try simp only[zA,zB,zC,zD,zE,zF,zG,zH,zI] at c2
       all_goals
        all_goals (exfalso; clear hK1 hK2 hK3 hK5 hK6 hK7 hK8 hK9 hK11 hK12; simp_all; try omega)
      ·
       intro c2
       try simp only[zA,zB,zC,zD,zE,zF,zG,zH,zI] at c2
       all_goals
        refine AWP_skip ?_
        simp only[go_sem]
        refine hK11 _ ?_
        refine oS fun _ hK13=>?_
        refine oW T_mHx222_ok ?_
        simp only[List.nodup_cons,List.nodup_nil,List.not_mem_nil,not_false_eq_true,hins,go_sem]
        repeat (with_reducible first | refine oA ?_ | refine And.intro (by first | exact hmi) ?_)
        refine hK13 _ ?_
        refine oS fun _ hK14=>?_
        refine oW T_mHx222_ok ?_
        simp (maxSteps:=2000000)only[List.nodup_cons,List.nodup_nil,List.not_mem_nil,not_false_eq_true,hrr,go_sem]
        repeat (with_reducible refine oA ?_)
        refine hK14 _ ?_
        refine oS fun _ hK15=>?_
        refine oW T_mHx222_ok ?_
        simp only[List.nodup_cons,List.nodup_nil,List.not_mem_nil,not_false_eq_true,hnt,go_sem]
        repeat (with_reducible first | refine oA ?_ | refine And.intro (by first | omega) ?_)
        refine hK15 _ ?_
        refine oS fun _ hK16=>?_
        refine oS fun _ hK17=>?_
        refine oW T_mHx222_ok ?_
        simp only[go_sem]
        refine hK17 _ ?_
        refine AWP_cond rfl ?_ ?_
        ·
         intro c3
         try simp only[zA,zB,zC,zD,zE,zF,zG,zH,zI] at c3
         all_goals
          exfalso
          clear hK1 hK2 hK3 hK5 hK6 hK7 hK8 hK9 hK11 hK12 hK13 hK14 hK15 hK16 hK17
          simp_all
        ·
         intro c3
         try simp only[zA,zB,zC,zD,zE,zF,zG,zH,zI] at c3
         all_goals
          refine AWP_skip ?_
          simp only[go_sem]
          refine hK16 _ ?_
          refine oS fun _ hK18=>?_
          refine oS fun _ hK19=>?_
          refine oW T_mHx222_ok ?_
          simp only[go_sem]
          refine hK19 _ ?_
          refine AWP_block ?_
          refine AWP_loop_k (ι:={ t:Nat // t≤12 }) (fun k=>⟨(zz :: zz :: zz :: zz :: zz :: zz :: .c (.po 196 0) :: zz :: zz :: zz :: .c (.ow 9010) :: .c (.ow 9041) :: zz :: .c (.ow 9053) :: .c (.sc (.int .i64 (k.1))) :: zz :: zz :: zz :: zz :: zz :: zz :: zz :: zz :: zz :: zz :: zz :: zz :: zz :: zz :: zz :: zz :: zz :: zz :: zz :: zz :: zz :: zz :: zz :: zz :: zz :: zz :: zz :: zz :: zz :: zz :: zz :: zz :: zz :: zz :: zz :: zz :: zz :: zz :: zz :: zz :: zz :: zz :: zz :: zz :: zz :: zz :: zz :: zz :: zz :: zz :: zz :: zz :: zz :: zz :: zz :: zz :: zz :: zz :: zz :: zz :: zz :: zz :: zz :: zz :: zz :: zz :: zz :: zz :: zz :: zz :: zz :: zz :: zz :: zz :: zz :: zz :: zz :: zz :: zz :: zz :: zz :: zz :: zz :: zz :: zz :: zz :: zz :: zz :: zz :: zz :: zz :: zz :: zz :: zz :: zz :: zz :: zz :: zz :: zz :: zz :: zz :: zz :: zz :: zz :: zz :: zz :: zz :: zz :: zz :: zz :: zz :: zz :: zz :: zz :: zz :: zz :: zz :: zz :: zz :: zz :: zz :: zz :: zz :: zz :: zz :: zz :: zz :: zz :: zz :: zz :: zz :: zz :: zz :: zz :: zz :: zz :: zz :: zz :: zz :: zz :: zz :: zz :: zz :: zz :: zz :: []),[(196,.box [.sc (.int .i64 (ni)),.ow 9011,.ow 9012,.ow 9013,.ow 9014]),(9011,.tree 26 (.row 2 (.int .i64)) (la) none),(9012,.tree 26 (.row 2 (.int .i64)) (lb) none),(9013,.tree 26 (.row 2 (.int .i64)) (lc) none),(9014,.tree 26 (.row 2 (.int .i64)) (ld) none),(9010,.tree 26 (.row 2 (.int .i64)) (ins) none),(9041,.tree 26 (.row 2 (.int .i64)) ((renderL (pi,ts,ns,os) ins 12)) none),(9053,.row 2 (.int .i64) ((lnS (trimP (pi,ts,ns,os)) ins k.1)) [])]⟩) (fun k=>12 - k.1) ⟨0,by omega⟩ ?_ ?_
          ·
           refine oK ?_
           simp (maxSteps:=2000000)only[go_sem]
           all_goals ((repeat' refine And.intro ?_ ?_)<;>first | rfl | exact hfo.zero.symm | (congr 1; exact hfo.zero.symm) | (congr 1; done))
          rintro ⟨t,ht⟩ K20 hL20
          refine oS fun _ hK21=>?_
          refine oS fun _ hK22=>?_
          refine oW T_mHx222_ok ?_
          simp only[go_sem]
          refine hK22 _ ?_
          refine AWP_cond rfl ?_ ?_
          ·
           intro c4
           try simp only[zA,zB,zC,zD,zE,zF,zG,zH,zI] at c4
           all_goals
            have hst0:=hfo.step t
            refine AWP_skip ?_
            simp only[go_sem]
            refine hK21 _ ?_
            refine oS fun _ hK23=>?_
            refine AWP_block ?_
            refine oS fun _ hK24=>?_
            refine oW T_mHx222_ok ?_
            simp only[List.nodup_nil,go_sem]
            repeat (with_reducible refine oA ?_)
            refine hK24 _ ?_
            refine oS fun _ hK25=>?_
            refine oS fun _ hK26=>?_
            refine oW T_mHx222_ok ?_
            simp only[go_sem]
            refine hK26 _ ?_
            refine AWP_block ?_
            refine AWP_loop_k (ι:={ k:Nat // k≤ins.length }) (fun k'=>⟨(zz :: zz :: zz :: zz :: zz :: zz :: .c (.po 196 0) :: zz :: zz :: zz :: .c (.ow 9010) :: .c (.ow 9041) :: zz :: .c (.ow 9053) :: .c (.sc (.int .i64 (t))) :: .c (.ow 9015) :: .c (.sc (.int .i64 (k'.1))) :: zz :: zz :: zz :: zz :: zz :: zz :: zz :: zz :: zz :: zz :: zz :: zz :: zz :: zz :: zz :: zz :: zz :: zz :: zz :: zz :: zz :: zz :: zz :: zz :: zz :: zz :: zz :: zz :: zz :: zz :: zz :: zz :: zz :: zz :: zz :: zz :: zz :: zz :: zz :: zz :: zz :: zz :: zz :: zz :: zz :: zz :: zz :: zz :: zz :: zz :: zz :: zz :: zz :: zz :: zz :: zz :: zz :: zz :: zz :: zz :: zz :: zz :: zz :: zz :: zz :: zz :: zz :: zz :: zz :: zz :: zz :: zz :: zz :: zz :: zz :: zz :: zz :: zz :: zz :: zz :: zz :: zz :: zz :: zz :: zz :: zz :: zz :: zz :: zz :: zz :: zz :: zz :: zz :: zz :: zz :: zz :: zz :: zz :: zz :: zz :: zz :: zz :: zz :: zz :: zz :: zz :: zz :: zz :: zz :: zz :: zz :: zz :: zz :: zz :: zz :: zz :: zz :: zz :: zz :: zz :: zz :: zz :: zz :: zz :: zz :: zz :: zz :: zz :: zz :: zz :: zz :: zz :: zz :: zz :: zz :: zz :: zz :: zz :: zz :: zz :: zz :: zz :: zz :: []),[(196,.box [.sc (.int .i64 (ni)),.ow 9011,.ow 9012,.ow 9013,.ow 9014]),(9011,.tree 26 (.row 2 (.int .i64)) (la) none),(9012,.tree 26 (.row 2 (.int .i64)) (lb) none),(9013,.tree 26 (.row 2 (.int .i64)) (lc) none),(9014,.tree 26 (.row 2 (.int .i64)) (ld) none),(9010,.tree 26 (.row 2 (.int .i64)) (ins) none),(9041,.tree 26 (.row 2 (.int .i64)) ((renderL (pi,ts,ns,os) ins 12)) none),(9053,.row 2 (.int .i64) ((lnS (trimP (pi,ts,ns,os)) ins t)) []),(9015,.row 2 (.int .i64) (frK ins t k'.1) [])]⟩) (fun k'=>ins.length - k'.1) ⟨0,by simp⟩ ?_ ?_
            ·
             refine oK ?_
             simp (maxSteps:=2000000)only[go_sem]
             all_goals ((repeat' refine And.intro ?_ ?_)<;>first | rfl | (congr 1; done) | (simp; done))
            rintro ⟨k,hk⟩ K27 hL27
            have hfk:=frK_len ins t k
            refine oS fun _ hK28=>?_
            refine oS fun _ hK29=>?_
            refine oW T_mHx222_ok ?_
            simp only[go_sem]
            refine hK29 _ ?_
            refine AWP_cond rfl ?_ ?_
            ·
             intro c5
             try simp only[zA,zB,zC,zD,zE,zF,zG,zH,zI] at c5
             all_goals
              have hrow:(ins.getD k []).length=12:=hfo.row (by omega)
              have hfn:=frK_next ins t k
              refine AWP_skip ?_
              simp only[go_sem]
              refine hK28 _ ?_
              refine oS fun _ hK30=>?_
              refine AWP_block ?_
              refine oW T_mHx222_ok ?_
              simp (maxSteps:=2000000)only[hfk,go_sem]
              repeat (with_reducible first | refine oA ?_ | refine And.intro (by first | omega | (rw [hrow]; omega)) ?_)
              refine hK30 _ ?_
              refine oW T_mHx222_ok ?_
              simp only[go_sem]
              refine hL27 ⟨k+1,by omega⟩ _ (oK ?_) ?_
              ·
               simp (maxSteps:=2000000)only[go_sem]
               all_goals ((repeat' refine And.intro ?_ ?_)<;>first | rfl | exact wk (by omega) | exact hfn | (congr 1; exact hfn) | (congr 1; done))
              ·
               first | (simp only[]; omega) | omega | (simp; omega)
            ·
             intro c5
             try simp only[zA,zB,zC,zD,zE,zF,zG,zH,zI] at c5
             all_goals
              have hfe:frK ins t k=frameAt ins (t:Int):=by rw [show k=ins.length by omega]; exact frK_all _ _
              have hsl:slOk (ni,la,lb,lc,ld) (lnS (trimP (pi,ts,ns,os)) ins t) (frK ins t k):=by rw [hfe]; exact hfo.sl t
              have hst1:apM la lb (lnS (trimP (pi,ts,ns,os)) ins t) (frK ins t k)=(lnS (trimP (pi,ts,ns,os)) ins (t+1)):=by rw [hfe]; exact (hfo.step t).1
              have hst2:apM lc ld (lnS (trimP (pi,ts,ns,os)) ins t) (frK ins t k)=(outsL (trimP (pi,ts,ns,os)) (valN (trimP (pi,ts,ns,os)) ins t)):=by rw [hfe]; exact (hfo.step t).2
              have hlo:(outsL (trimP (pi,ts,ns,os)) (valN (trimP (pi,ts,ns,os)) ins t)).length=os.length:=fl_outs _ _ _
              have hl1:(lnS (trimP (pi,ts,ns,os)) ins t).length=la.length:=hfo.len t
              have hl2:(lnS (trimP (pi,ts,ns,os)) ins (t+1)).length=la.length:=hfo.len (t+1)
              refine AWP_exit ?_
              simp only[go_sem]
              refine hK25 _ ?_
              refine oS fun _ hK31=>?_
              refine oW T_mHx222_ok ?_
              simp (maxSteps:=2000000)only[List.nodup_cons,List.nodup_nil,List.not_mem_nil,not_false_eq_true,hst1,hst2,go_sem]
              repeat (with_reducible first | refine oA ?_ | refine And.intro (by first | exact hsl) ?_)
              refine hK31 _ ?_
              refine oS fun _ hK32=>?_
              refine oS fun _ hK33=>?_
              refine oW T_mHx222_ok ?_
              simp (maxSteps:=2000000)only[hlo,hyl,hl1,hl2,go_sem]
              repeat' (with_reducible first | refine oA ?_ | refine oT (fun g24=>?_) (fun g24=>?_) | refine oE (fun g24=>?_) (fun g24=>?_))
              all_goals
               refine hK33 _ ?_
               refine AWP_cond rfl ?_ ?_
               ·
                intro c6
                try simp only[zA,zB,zC,zD,zE,zF,zG,zH,zI] at c6
                all_goals
                 all_goals (exfalso; clear hK1 hK2 hK3 hK5 hK6 hK7 hK8 hK9 hK11 hK12 hK13 hK14 hK15 hK16 hK17 hK18 hK19 hL20 hK21 hK22 hK23 hK24 hK25 hK26 hL27 hK28 hK29 hK31 hK32 hK33; simp_all)
               ·
                intro c6
                try simp only[zA,zB,zC,zD,zE,zF,zG,zH,zI] at c6
                all_goals
                 refine AWP_skip ?_
                 simp only[go_sem]
                 refine hK32 _ ?_
                 refine oS fun _ hK34=>?_
                 refine oS fun _ hK35=>?_
                 refine oW T_mHx222_ok ?_
                 simp only[go_sem]
                 refine hK35 _ ?_
                 refine AWP_block ?_
                 refine AWP_loop_k (ι:={ j:Nat // j≤os.length }) (fun k'=>⟨(zz :: zz :: zz :: zz :: zz :: zz :: .c (.po 196 0) :: zz :: zz :: zz :: .c (.ow 9010) :: .c (.ow 9041) :: zz :: zz :: .c (.sc (.int .i64 (t))) :: zz :: zz :: .c (.ow 9017) :: .c (.ow 9018) :: zz :: .c (.sc (.int .i64 (k'.1))) :: zz :: zz :: zz :: zz :: zz :: zz :: zz :: zz :: zz :: zz :: zz :: zz :: zz :: zz :: zz :: zz :: zz :: zz :: zz :: zz :: zz :: zz :: zz :: zz :: zz :: zz :: zz :: zz :: zz :: zz :: zz :: zz :: zz :: zz :: zz :: zz :: zz :: zz :: zz :: zz :: zz :: zz :: zz :: zz :: zz :: zz :: zz :: zz :: zz :: zz :: zz :: zz :: zz :: zz :: zz :: zz :: zz :: zz :: zz :: zz :: zz :: zz :: zz :: zz :: zz :: zz :: zz :: zz :: zz :: zz :: zz :: zz :: zz :: zz :: zz :: zz :: zz :: zz :: zz :: zz :: zz :: zz :: zz :: zz :: zz :: zz :: zz :: zz :: zz :: zz :: zz :: zz :: zz :: zz :: zz :: zz :: zz :: zz :: zz :: zz :: zz :: zz :: zz :: zz :: zz :: zz :: zz :: zz :: zz :: zz :: zz :: zz :: zz :: zz :: zz :: zz :: zz :: zz :: zz :: zz :: zz :: zz :: zz :: zz :: zz :: zz :: zz :: zz :: zz :: zz :: zz :: zz :: zz :: zz :: zz :: zz :: zz :: zz :: zz :: []),[(196,.box [.sc (.int .i64 (ni)),.ow 9011,.ow 9012,.ow 9013,.ow 9014]),(9011,.tree 26 (.row 2 (.int .i64)) (la) none),(9012,.tree 26 (.row 2 (.int .i64)) (lb) none),(9013,.tree 26 (.row 2 (.int .i64)) (lc) none),(9014,.tree 26 (.row 2 (.int .i64)) (ld) none),(9010,.tree 26 (.row 2 (.int .i64)) (ins) none),(9041,.tree 26 (.row 2 (.int .i64)) ((renderL (pi,ts,ns,os) ins 12)) none),(9017,.row 2 (.int .i64) ((lnS (trimP (pi,ts,ns,os)) ins (t+1))) []),(9018,.row 2 (.int .i64) ((outsL (trimP (pi,ts,ns,os)) (valN (trimP (pi,ts,ns,os)) ins t))) [])]⟩) (fun k'=>os.length - k'.1) ⟨0,by simp⟩ ?_ ?_
                 ·
                  refine oK ?_
                  simp (maxSteps:=2000000)only[go_sem]
                  all_goals ((repeat' refine And.intro ?_ ?_)<;>first | rfl | (congr 1; done) | (simp; done))
                 rintro ⟨j,hj⟩ K36 hL36
                 refine oS fun _ hK37=>?_
                 refine oS fun _ hK38=>?_
                 refine oW T_mHx222_ok ?_
                 simp only[go_sem]
                 refine hK38 _ ?_
                 refine AWP_cond rfl ?_ ?_
                 ·
                  intro c7
                  try simp only[zA,zB,zC,zD,zE,zF,zG,zH,zI] at c7
                  all_goals
                   have hrw:((renderL (pi,ts,ns,os) ins 12).getD j []).length=12:=hfo.rows (by show j < os.length; omega)
                   have heq:(outsL (trimP (pi,ts,ns,os)) (valN (trimP (pi,ts,ns,os)) ins t)).getD j 0=((renderL (pi,ts,ns,os) ins 12).getD j []).getD t 0:=hfo.eq (by omega) (by show j < os.length; omega)
                   refine AWP_skip ?_
                   simp only[go_sem]
                   refine hK37 _ ?_
                   refine oS fun _ hK39=>?_
                   refine AWP_block ?_
                   refine oS fun _ hK40=>?_
                   refine oR T_mHx222_ok
                     [[],[],[0,1],[0,1,2],[],[],[4,5],[4,5,6],[],[4,5,6,7,8],[4,5,6,7,8,9],[0,1,2,3,4,5,6,7,8,9,10]]
                     [[],[],[],[],[],[],[],[],[],[],[],[]]
                     [[],[],[],[],[],[],[],[],[],[],[],[]] (by kernel_rfl) (by kernel_rfl) (adrawR_ok (acc:=[]) ?_)
                   simp (maxSteps:=2000000)only[go_sem]
                   repeat (with_reducible first | refine oD ?_ | refine And.intro (by first | omega | (rw [hrw]; omega)) ?_)
                   refine hK40 _ ?_
                   refine AWP_cond rfl ?_ ?_
                   ·
                    intro c8
                    try simp only[zA,zB,zC,zD,zE,zF,zG,zH,zI] at c8
                    all_goals
                     exfalso
                     clear hK1 hK2 hK3 hK5 hK6 hK7 hK8 hK9 hK11 hK12 hK13 hK14 hK15 hK16 hK17 hK18 hK19 hL20 hK21 hK22 hK23 hK24 hK25 hK26 hL27 hK28 hK29 hK31 hK32 hK33 hK34 hK35 hL36 hK37 hK38 hK39 hK40
                     simp_all
                   ·
                    intro c8
                    try simp only[zA,zB,zC,zD,zE,zF,zG,zH,zI] at c8
                    all_goals
                     refine AWP_skip ?_
                     simp only[go_sem]
                     refine hK39 _ ?_
                     refine oW T_mHx222_ok ?_
                     simp only[go_sem]
                     refine hL36 ⟨j+1,by omega⟩ _ (oK ?_) ?_
                     ·
                      simp (maxSteps:=2000000)only[go_sem]
                      all_goals ((repeat' refine And.intro ?_ ?_)<;>first | rfl | exact wk (by omega) | (congr 1; done))
                     ·
                      first | (simp only[]; omega) | omega | (simp; omega)
                 ·
                  intro c7
                  try simp only[zA,zB,zC,zD,zE,zF,zG,zH,zI] at c7
                  all_goals
                   refine AWP_exit ?_
                   simp only[go_sem]
                   refine hK34 _ ?_
                   refine oW T_mHx222_ok ?_
                   simp only[go_sem]
                   refine hK23 _ ?_
                   refine oW T_mHx222_ok ?_
                   simp only[go_sem]
                   refine hL20 ⟨t+1,by omega⟩ _ (oK ?_) ?_
                   ·
                    simp (maxSteps:=2000000)only[go_sem]
                    all_goals ((repeat' refine And.intro ?_ ?_)<;>first | rfl | exact wk (by omega) | (congr 1; done))
                   ·
                    first | (simp only[]; omega) | omega | (simp; omega)
          ·
           intro c4
           try simp only[zA,zB,zC,zD,zE,zF,zG,zH,zI] at c4
           all_goals
            refine AWP_exit ?_
            simp only[go_sem]
            refine hK18 _ ?_
            refine oS fun _ hK41=>?_
            refine oW T_mHx222_ok ?_
            simp only[go_sem]
            refine hK41 _ ?_
            refine AWP_ret ?_
            simp only[hres,go_sem]
            first | exact oF | (refine ⟨?_,oF⟩; first | rfl | done)
def T_lawFnLin:Tab:=fun f=>if f=5 then some (.p K_lawFnLin) else T_mHx222 f
attribute [go_sem] T_lawFnLin K_lawFnLin
end Go.Proofs.YtflaacndokbddaaGreat
