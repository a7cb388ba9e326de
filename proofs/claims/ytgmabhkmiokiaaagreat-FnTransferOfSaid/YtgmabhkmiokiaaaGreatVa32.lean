/-
  Texts of this claim, joined (part 32). No condition beyond those of the theorems.
-/
import Derived.Test.YtgmabhkmiokiaaaGreatVa31
import Derived.Test.YtgmabhkmiokiaaaGreatVa04
import Derived.Test.YtgmabhkmiokiaaaGreatVa21
import Derived.Test.YtgmabhkmiokiaaaGreatVa07
import Derived.Test.YtgmabhkmiokiaaaGreatVa27
import Derived.Test.YtgmabhkmiokiaaaGreatVa29
namespace Go.Proofs.YtgmabhkmiokiaaaGreat
open Go.RowKit
set_option linter.unusedSimpArgs false
set_option linter.unusedVariables false
set_option maxRecDepth 100000
set_option maxHeartbeats 1000000
def T_mGa70:Tab:=fun f=>match T_isWellFormed f with
 | some k=>some k
 | none=>T_order f
theorem T_mGa70_ok:TabOk Tryz.prog T_mGa70:=tabM T_isWellFormed_ok T_order_ok
attribute [go_sem] T_mGa70 T0
def K_isPatch:Con:=⟨[.val ((.prod (.int .i64) (.prod (.row 26 (.row 2 (.int .i64))) (.prod (.row 93 (.prod (.int .i64) (.prod (.int .i64) (.prod (.int .i64) (.row 2 (.int .i64)))))) (.row 2 (.int .i64))))))],[⟨.bool,true⟩],fun _=>True,fun x=>patchB x.1⟩
theorem isPatch_ok:PureT Tryz.prog 31 K_isPatch:=by
  refine pure_of_body Tryz.func31 rfl ?_
  have hres:Tryz.f31.results.toList=[.tmp 2]:=rfl
  rintro ⟨⟨(pi:Int),(ts:List (List Int)),(ns:List NodeD),(os:List Int)⟩,_⟩ hc hL
  simp only[K_isPatch,go_sem] at hL
  obtain ⟨⟨lts,lts2⟩,⟨lns,lns2⟩,los⟩:=hL
  simp only[K_isPatch,St.init,St.initG,Tryz.ntmps31,go_sem] 
  refine oS fun _ hK1=>?_;refine oW T_mGa70_ok ?_;simp only[go_sem];repeat (with_reducible first | refine oA ?_ | refine And.intro (by first | clear hK1; simp_all) ?_)
  refine hK1 _ ?_;refine oS fun _ hK2=>?_
  refine oR T_mGa70_ok
    [[],[0],[0,1],[0,1,2],[0,1,2,3],[0,1,2,3,4],[0,1,2],[0,1,2,6],[0,1,2,6,7],[0,1,2,3,4,5,6,7,8],[0,1,2,3,4,5,6,7,8,9],[0,1,2,3,4,5,6,7,8,9,10]]
    [[],[],[],[],[],[],[212,213,214,215,216,217,218,219,220,221,222,223,224,225,226,227],[212,213,214,215,216,217,218,219,220,221,222,223,224,225,226,227],[212,213,214,215,216,217,218,219,220,221,222,223,224,225,226,227],[],[],[]]
    [[],[],[],[],[212,213,214,215,216,217,218,219,220,221,222,223,224,225,226,227],[],[],[],[],[],[],[]] (by kernel_rfl) (by kernel_rfl) (adrawR_ok (acc:=[]) ?_)
  simp (maxSteps:=2000000)only[go_sem];repeat' (with_reducible first | refine oD ?_ | refine And.intro (by first | clear hK1 hK2; simp_all) ?_ | refine oT (fun g1=>?_) (fun g1=>?_) | refine oE (fun g1=>?_) (fun g1=>?_))
  all_goals
   refine hK2 _ ?_;refine AWP_ret ?_;simp only[hres,go_sem];first | exact oF | (refine ⟨?_,oF⟩; clear hK1 hK2; simp_all [patchB]<;>first | rfl | exact decide_eq_decide.2 (by omega))
def T_isPatch:Tab:=fun f=>if f=31 then some (.p K_isPatch) else T_mGa70 f
theorem T_isPatch_ok:TabOk Tryz.prog T_isPatch:=tabP isPatch_ok (fnOk_of Tryz.func31 rfl (by decide)) T_mGa70_ok
attribute [go_sem] T_isPatch K_isPatch
def T_unionCode:Tab:=T_isPatch
attribute [go_sem] T_unionCode
set_option maxRecDepth 100000
set_option maxHeartbeats 1000000
def T_mHt10:Tab:=fun f=>match T_isPatch f with
 | some k=>some k
 | none=>T_clones f
theorem T_mHt10_ok:TabOk Tryz.prog T_mHt10:=tabM T_isPatch_ok T_clones_ok
attribute [go_sem] T_mHt10 T0
def T_mHt11:Tab:=fun f=>match T_mHt10 f with
 | some k=>some k
 | none=>T_l07Map f
theorem T_mHt11_ok:TabOk Tryz.prog T_mHt11:=tabM T_mHt10_ok T_l07Map_ok
attribute [go_sem] T_mHt11 T0
def K_playerOf:GCon where
  ps:=[.val ((.prod (.int .i64) (.prod (.row 26 (.row 2 (.int .i64))) (.prod (.row 93 (.prod (.int .i64) (.prod (.int .i64) (.prod (.int .i64) (.row 2 (.int .i64)))))) (.row 2 (.int .i64)))))),.one ((.row 26 (.row 2 (.int .i64))))]
  os:=[]
  c:=fun x=>patchB x.1.1=true∧StOk x.1.1 x.1.2.1
  r:=fun x=>.c (.po 10 0)
  o:=fun x=>[(10,.box [.sc (.int .i64 (x.1.1.1)),.rd [] 26 ((.row 2 (.int .i64))) (x.1.1.2.1),.rd [] 93 ((.prod (.int .i64) (.prod (.int .i64) (.prod (.int .i64) (.row 2 (.int .i64)))))) (x.1.1.2.2.1),.rd [] 2 (.int .i64) (x.1.1.2.2.2),.ow 11,.ow 12,.ow 13]),(11,.row 2 (.int .i64) (ordL x.1.1.2.2.1) []),(12,.row 2 (.int .i64) (List.replicate x.1.1.2.2.1.length 0) []),(13,.tree 26 (.row 2 (.int .i64)) (x.1.2.1) none)]
  ok:=by
    rintro ⟨⟨⟨(pi:Int),(ts:List (List Int)),(ns:List NodeD),(os:List Int)⟩,(cc:List (List Int)),_⟩,_⟩
    exact ⟨rfl,rfl,by decide⟩
theorem playerOf_ok:GenT Tryz.prog 73 K_playerOf:=by
  refine gen_of_body Tryz.func73 rfl ?_
  have hres:Tryz.f73.results.toList=[.tmp 4]:=rfl
  rintro ⟨⟨⟨(pi:Int),(ts:List (List Int)),(ns:List NodeD),(os:List Int)⟩,(cc:List (List Int)),_⟩,_⟩ hc hL hO
  simp only[K_playerOf,go_sem] at hL
  simp only[K_playerOf,go_sem] at hO
  simp only[K_playerOf,St.init,St.initG,Tryz.ntmps73,go_sem] 
  obtain ⟨hP,hs1,hs2⟩:=(show patchB (pi,ts,ns,os)=true∧StOk (pi,ts,ns,os) cc from hc)
  have hF:=(patchB_parts hP).1
  have hn24:ns.length≤24:=(formedB_parts hF).1
  have hs1:cc.length=ns.length:=hs1
  have hfc:fitsL cc:=fitsL_st hF ⟨hs1,hs2⟩
  refine oS fun _ hK1=>?_;refine oW T_mHt11_ok ?_;simp only[go_sem];repeat (with_reducible first | refine oA ?_ | refine And.intro (by first | exact hF | exact inR_iff.2 (by omega) | exact hfc) ?_)
  refine hK1 _ ?_;refine oS fun _ hK2=>?_
  refine oR T_mHt11_ok
    [[],[],[1],[],[3],[1,2,3,4],[1,2,3,4,5],[],[7],[1,2,3,4,5,6,7,8],[0,1,2,3,4,5,6,7,8,9],[0,1,2,3,4,5,6,7,8,9,10],[0,1,2,3,4,5,6,7,8,9,10,11]]
    [[212,213,214,215,216,217,218,219,220,221,222,223,224,225,226,227,276,277,278,279,280,281,282,283,284,285,286,287,288,289,290,291,324,325,326,327,328,329,330,331,332,333,334,335,336,337,338,339],[],[],[212,213,214,215,216,217,218,219,220,221,222,223,224,225,226,227],[212,213,214,215,216,217,218,219,220,221,222,223,224,225,226,227],[],[],[212,213,214,215,216,217,218,219,220,221,222,223,224,225,226,227,276,277,278,279,280,281,282,283,284,285,286,287,288,289,290,291],[212,213,214,215,216,217,218,219,220,221,222,223,224,225,226,227,276,277,278,279,280,281,282,283,284,285,286,287,288,289,290,291],[],[],[],[]]
    [[],[],[212,213,214,215,216,217,218,219,220,221,222,223,224,225,226,227],[],[],[],[276,277,278,279,280,281,282,283,284,285,286,287,288,289,290,291],[],[],[324,325,326,327,328,329,330,331,332,333,334,335,336,337,338,339],[],[],[]] (by kernel_rfl) (by kernel_rfl) (adrawR_ok (acc:=[]) ?_)
  simp (maxSteps:=2000000)only[go_sem];repeat (with_reducible first | refine oD ?_ | refine And.intro (by first | exact hF | exact inR_iff.2 (by omega) | exact hfc) ?_)
  refine hK2 _ ?_;refine AWP_ret ?_;simp only[hres,go_sem];first | exact oG | (refine ⟨oG,?_⟩; (repeat' refine And.intro ?_ ?_)<;>first | rfl | (congr 1; done) | simp)
def T_playerOf:Tab:=fun f=>if f=73 then some (.g K_playerOf) else T_mHt11 f
theorem T_playerOf_ok:TabOk Tryz.prog T_playerOf:=tabG playerOf_ok (fnOk_of Tryz.func73 rfl (by decide)) T_mHt11_ok
attribute [go_sem] T_playerOf K_playerOf
set_option maxRecDepth 100000
set_option maxHeartbeats 4000000
def T_mHm50:Tab:=fun f=>match T_colsRows f with
 | some k=>some k
 | none=>T_frame f
theorem T_mHm50_ok:TabOk Tryz.prog T_mHm50:=tabM T_colsRows_ok T_frame_ok
attribute [go_sem] T_mHm50 T0
def T_mHm51:Tab:=fun f=>match T_mHm50 f with
 | some k=>some k
 | none=>T_playerOf f
theorem T_mHm51_ok:TabOk Tryz.prog T_mHm51:=tabM T_mHm50_ok T_playerOf_ok
attribute [go_sem] T_mHm51 T0
def K_probe:GCon where
  ps:=[.val ((.row 2 (.int .i64))),.val ((.row 2 (.int .i64))),.po 0]
  os:=[.box [.rd ((.prod (.int .i64) (.prod (.row 26 (.row 2 (.int .i64))) (.prod (.row 93 (.prod (.int .i64) (.prod (.int .i64) (.prod (.int .i64) (.row 2 (.int .i64)))))) (.row 2 (.int .i64))))))]]
  c:=fun x=>patchB x.2.1.1=true∧x.1.1.length=cellN x.2.1.1.2.2.1∧smps x.1.1=true∧(x.1.2.1.length:Int)=x.2.1.1.1∧smps x.1.2.1=true
  r:=fun _=>.tup [.c (.ow 10),.c (.ow 11)]
  o:=fun x=>[(10,.row 2 (.int .i64) ((colM x.2.1.1 x.1.1 x.1.2.1).1) []),(11,.row 2 (.int .i64) ((colM x.2.1.1 x.1.1 x.1.2.1).2) []),(30,.box [.sc (.int .i64 (x.2.1.1.1)),.rd [] 26 ((.row 2 (.int .i64))) (x.2.1.1.2.1),.rd [] 93 ((.prod (.int .i64) (.prod (.int .i64) (.prod (.int .i64) (.row 2 (.int .i64)))))) (x.2.1.1.2.2.1),.rd [] 2 (.int .i64) (x.2.1.1.2.2.2)])]
  ok:=by
    rintro ⟨⟨(cs:List Int),(ff:List Int),_⟩,⟨⟨⟨(pi:Int),(ts:List (List Int)),(ns:List NodeD),(os:List Int)⟩,_⟩,_⟩⟩
    exact ⟨rfl,rfl,by decide⟩
theorem probe_ok:GenT Tryz.prog 72 K_probe:=by
  refine gen_of_body Tryz.func72 rfl ?_
  have hres:Tryz.f72.results.toList=[.tmp 5,.tmp 6]:=rfl
  rintro ⟨⟨(cs:List Int),(ff:List Int),_⟩,⟨⟨⟨(pi:Int),(ts:List (List Int)),(ns:List NodeD),(os:List Int)⟩,_⟩,_⟩⟩ hc hL hO
  simp only[K_probe,go_sem] at hL
  simp only[K_probe,go_sem] at hO
  simp only[K_probe,St.init,St.initG,Tryz.ntmps72,go_sem] 
  obtain ⟨hP,hcl,hcs,hfl,hff⟩:=(show patchB (pi,ts,ns,os)=true∧cs.length=cellN ns∧smps cs=true∧(ff.length:Int)=pi∧smps ff=true from hc)
  have hF:=(patchB_parts hP).1
  have hn24:ns.length≤24:=(formedB_parts hF).1
  have hS:StOk (pi,ts,ns,os) (setS ns cs):=setS_ok (q:=(pi,ts,ns,os)) hcl hcs
  have hfs:formedB (pi,ts,ns,os)=true∧cs.length=cellN ns:=⟨hF,hcl⟩
  obtain ⟨cc,hcc⟩ :∃cc,setS ns cs=cc:=⟨_,rfl⟩
  rw [hcc] at hS;have hvo:=valsL_ok' (p:=(pi,ts,ns,os)) (s:=cc) (fr:=ff) hF hS hff
  have hos:os.length≤1000∧idxs (valsL (pi,ts,ns,os) cc ff).length os=true:=⟨by have:=(formedB_parts hF).2.1; show os.length≤1000; have h:os.length≤4:=this; omega,by rw [hvo.1]; exact (formedB_parts hF).2.2.2.2.2.1⟩
  have hpl:playL (pi,ts,ns,os) (List.replicate ns.length 0) cc ff=(valsL (pi,ts,ns,os) cc ff,nextL (pi,ts,ns,os) cc ff (valsL (pi,ts,ns,os) cc ff)):=play_eq (p:=(pi,ts,ns,os)) hP (by simp) hS.1
  have hnl:(nextL (pi,ts,ns,os) cc ff (valsL (pi,ts,ns,os) cc ff)).flatten.length≤1000000:=by have h:=(colM_len hF hcl hcs hff).1; have h2:=cellN_384 hF; rw [show (nextL (pi,ts,ns,os) cc ff (valsL (pi,ts,ns,os) cc ff)).flatten.length=(colM (pi,ts,ns,os) cs ff).1.length by unfold colM; rw [show setS (pi,ts,ns,os).2.2.1 cs=cc from hcc],h]; omega
  have hcm:colM (pi,ts,ns,os) cs ff=((nextL (pi,ts,ns,os) cc ff (valsL (pi,ts,ns,os) cc ff)).flatten,outsL (pi,ts,ns,os) (valsL (pi,ts,ns,os) cc ff)):=by unfold colM; rw [show setS (pi,ts,ns,os).2.2.1 cs=cc from hcc]
  refine oS fun _ hK1=>?_;refine oW T_mHm51_ok ?_;simp only[go_sem];refine hK1 _ ?_;refine oS fun _ hK2=>?_
  refine oR T_mHm51_ok
    [[],[],[],[1,2],[0,1,2,3],[0,1,2,3,4]]
    [[276,277,278,279,280,281,282,283,284,285,286,287,288,289,290,291],[],[],[],[],[]]
    [[],[],[],[276,277,278,279,280,281,282,283,284,285,286,287,288,289,290,291],[],[]] (by kernel_rfl) (by kernel_rfl) (adrawR_ok (acc:=[]) ?_)
  simp (maxSteps:=2000000)only[List.nodup_cons,List.nodup_nil,List.not_mem_nil,not_false_eq_true,hcc,go_sem];repeat (with_reducible first | refine oD ?_ | refine And.intro (by first | exact hfs | exact ⟨hP,hS⟩) ?_)
  refine hK2 _ ?_;refine oS fun _ hK3=>?_;refine oW T_mHm51_ok ?_;simp only[hpl,go_sem];repeat (with_reducible first | refine oA ?_ | refine And.intro (by first | exact ⟨hP,rfl,vals0_ok (pi,ts,ns,os),hS,hfl,hff⟩ | exact ⟨hP,vals0_ok (pi,ts,ns,os),hS,hfl,hff⟩) ?_)
  refine hK3 _ ?_;refine oS fun _ hK4=>?_;refine oW T_mHm51_ok ?_;simp (maxSteps:=2000000)only[go_sem];repeat (with_reducible first | refine oA ?_ | refine And.intro (by first | exact hnl | exact hos) ?_)
  refine hK4 _ ?_;refine AWP_ret ?_;simp only[hres,go_sem]
  first
   | exact oG
   | refine ⟨oG,?_⟩
     rw [hcm]
     (repeat' refine And.intro ?_ ?_)<;>first | rfl | (congr 1; done)
def T_probe:Tab:=fun f=>if f=72 then some (.g K_probe) else T_mHm51 f
theorem T_probe_ok:TabOk Tryz.prog T_probe:=tabG probe_ok (fnOk_of Tryz.func72 rfl (by decide)) T_mHm51_ok
attribute [go_sem] T_probe K_probe
end Go.Proofs.YtgmabhkmiokiaaaGreat
