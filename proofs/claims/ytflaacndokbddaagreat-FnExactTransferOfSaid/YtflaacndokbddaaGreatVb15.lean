/-
  Texts of this claim, joined (part 15). No condition beyond those of the theorems.
-/
import Derived.Test.YtflaacndokbddaaGreatVb14
import Derived.Test.YtflaacndokbddaaGreatVb05
import Derived.Test.YtflaacndokbddaaGreatVb09
import Derived.Test.YtflaacndokbddaaGreatVb08
namespace Go.Proofs.YtflaacndokbddaaGreat
open Go.RowKit
set_option linter.unusedSimpArgs false
set_option linter.unusedVariables false
def rowsSq (aa:List (List Int)):Prop:=rowsOk aa aa.length aa.length∧aa.length≤1000
theorem trim_end {xs:List Int} {n:Nat} (h:tl xs xs.length=tl xs n) (hn:n≤xs.length) (h0:0 < n) (he:n=1∨¬ xs.getD (n - 1) 0=0):trimL xs=xs.take n:=by
 by_cases c:xs.getD (n - 1) 0=0
 · have e : n = 1 := he.resolve_right fun z => z c
   subst e
   have c:xs.getD 0 0=0:=c
   rw [trimL_0 (by rw [h,tl_t c]; rfl)]
   cases xs with
   | nil=>simp at hn
   | cons x xs => have : x = 0 := by simpa using c
                  subst this; rfl
 · exact trimL_p (by rw [h,show n=(n - 1)+1 by omega,tl_f c]) h0
theorem trim_none {xs:List Int} (h:tl xs xs.length=tl xs 0):trimL xs=[0]:=trimL_0 h
theorem trim_go {xs:List Int} {n:Nat} (h:tl xs xs.length=tl xs n) (h0:0 < n) (c:xs.getD (n - 1) 0=0):tl xs xs.length=tl xs (n - 1):=by
 rw [h]
 conv=>lhs; rw [show n=(n - 1)+1 by omega]
 exact tl_t c
def ptN (aa:List (List Int)) (k i:Nat):List (List Int):=(List.range i).map fun j=>(aa.getD j []).take k
def c0N (aa:List (List Int)) (k i:Nat):List Int:=(List.range i).map fun j=>(aa.getD j []).getD k 0
theorem ptN_next (aa:List (List Int)) (k i:Nat):ptN aa k i++[(aa.getD i []).take k]=ptN aa k (i+1):=map_range_next (fun j=>(aa.getD j []).take k) i
theorem c0N_next (aa:List (List Int)) (k i:Nat):c0N aa k i++[(aa.getD i []).getD k 0]=c0N aa k (i+1):=map_range_next (fun j=>(aa.getD j []).getD k 0) i
theorem ptN_len (aa:List (List Int)) (k i:Nat):(ptN aa k i).length=i:=by simp [ptN]
theorem c0N_len (aa:List (List Int)) (k i:Nat):(c0N aa k i).length=i:=by simp [c0N]
theorem c0N_cl {aa:List (List Int)} (h:rowsSq aa) {k:Nat} (hk:k≤aa.length):c0N aa k k=clN aa k 0:=clN_0 k fun i hi=>(h.1.2 i (by omega)).2
theorem ptN_at {aa:List (List Int)} {k i:Nat} (h:i < k):(ptN aa k k).getD i []=(aa.getD i []).take k:=by simp [ptN,List.getD,h]
theorem pt_times (aa:List (List Int)) (k i:Nat):timesL (ptN aa k k) (clN aa k i)=clN aa k (i+1):=by
 rw [← clN_next]
 unfold timesL
 rw [ptN_len,clN_len]
 exact List.map_congr_left fun j hj=>by rw [ptN_at (List.mem_range.1 hj)]
theorem pt_one (aa:List (List Int)) (k i:Nat):timesL [(aa.getD k []).take k] (clN aa k i)=[dotN ((aa.getD k []).take k) (clN aa k i) k]:=by
 show [dotN ((aa.getD k []).take k) (clN aa k i) (clN aa k i).length]=_
 rw [clN_len]
def dotK (aa:List (List Int)) (k i m:Nat):List Int:=(List.range m).map fun j=>dotN ((aa.getD j []).take k) (clN aa k i) k
theorem dotK_next (aa:List (List Int)) (k i m:Nat):dotK aa k i m++[dotN ((aa.getD m []).take k) (clN aa k i) k]=dotK aa k i (m+1):=map_range_next (fun j=>dotN ((aa.getD j []).take k) (clN aa k i) k) m
theorem dotK_len (aa:List (List Int)) (k i m:Nat):(dotK aa k i m).length=m:=by simp [dotK]
theorem dotK_all (aa:List (List Int)) (k i:Nat):dotK aa k i k=clN aa k (i+1):=clN_next aa k i
theorem take_len {aa:List (List Int)} (h:rowsSq aa) {j k:Nat} (hj:j < aa.length) (hk:k≤aa.length):((aa.getD j []).take k).length=k:=by
 rw [List.length_take,(h.1.2 j hj).1]; omega
theorem one_ge {x:List Int} {m:Nat} (h:m≤x.length) :∀j,j < [x].length→m≤([x].getD j []).length:=fun j hj=>by
 have e:j=0:=by simpa using hj
 subst e; exact h
theorem linW.stp {x:LinD} {n:Nat} (h:linW x n):(∀ i,i < x.2.1.length→n≤(x.2.1.getD i []).length)∧(∀ i,i < x.2.2.1.length→x.1.toNat≤(x.2.2.1.getD i []).length)∧(∀ i,i < x.2.2.2.1.length→n≤(x.2.2.2.1.getD i []).length)∧(∀ i,i < x.2.2.2.2.length→x.1.toNat≤(x.2.2.2.2.getD i []).length) :=
 ⟨fun i hi=>Nat.le_of_eq (h.a.2 i (by rw [← h.a.1]; exact hi)).1.symm,fun i hi=>Nat.le_of_eq (h.b.2 i (by rw [← h.b.1]; exact hi)).1.symm,fun i hi=>Nat.le_of_eq (h.c.2 i hi).1.symm,fun i hi=>Nat.le_of_eq (h.d.2 i (by rw [← h.d.1]; exact hi)).1.symm⟩
def stepC' (x:LinD) (s f:List Int):Prop:=linW x s.length∧f.length=x.1.toNat∧s.length≤1000∧x.2.2.2.1.length≤1000
theorem linW.n {x:LinD} {n:Nat} (h:linW x n):x.2.1.length=n:=h.a.1
theorem rsp_stepC {x:LinD} (h:linW x x.2.1.length) (h1:x.2.1.length≤1000) (h2:x.2.2.2.1.length≤1000) (i:Int) (t:Nat):stepC' x (rspS x i t) (rspF x i t):=⟨by rw [rspS_len]; exact h,rspF_len _ _ _,by rw [rspS_len]; exact h1,h2⟩
theorem rsp_step (x:LinD) (i:Int) (t:Nat):stepL x (rspS x i t) (rspF x i t)=(rspS x i (t+1),rspO x i t):=rfl
def trnR (p:PatchD) (i o:Int):TrD × Int:=match decide (linCode p=0) with
 | false=>(([],[]),linCode p)
 | true=>match inR i 0 (p.1 - 1) && inR o 0 ((p.2.2.2.length:Int) - 1) with
   | false=>(([],[]),2)
   | true=>(trnL (linM (trimP p)) i o,0)
theorem trnR_f {p:PatchD} {i o:Int} (h:¬ linCode p=0):trnR p i o=(([],[]),linCode p):=by unfold trnR; rw [decide_eq_false h]
theorem trnR_2 {p:PatchD} {i o:Int} (h:linCode p=0) (k:(inR i 0 (p.1 - 1) && inR o 0 ((p.2.2.2.length:Int) - 1))=false):trnR p i o=(([],[]),2):=by unfold trnR; rw [decide_eq_true h,k]
theorem trnR_0 {p:PatchD} {i o:Int} (h:linCode p=0) (k:(inR i 0 (p.1 - 1) && inR o 0 ((p.2.2.2.length:Int) - 1))=true):trnR p i o=(trnL (linM (trimP p)) i o,0):=by unfold trnR; rw [decide_eq_true h,k]
structure linOkP (p:PatchD):Prop where
 ok:patchB p=true
 lin:linB p=true
 w:linW (linM (trimP p)) (linM (trimP p)).2.1.length
 n:(linM (trimP p)).2.1.length≤24
 i:(linM (trimP p)).1=p.1
 o:(linM (trimP p)).2.2.2.1.length=p.2.2.2.length
 i4:0≤p.1∧p.1≤4
 o4:p.2.2.2.length≤4
theorem linOk_of {p:PatchD} (h:linCode p=0):linOkP p:=by
 have hP:patchB p=true:=by
  cases h':patchB p with
  | true=>rfl
  | false=>rw [linCode_1 h'] at h; cases h
 have hl:linB p=true:=by
  cases h':linB p with
  | true=>rfl
  | false=>rw [linCode_6 hP h'] at h; cases h
 have hc:cellN (trimP p).2.2.1≤24:=by
  by_cases h2:24 < cellN (trimP p).2.2.1
  · rw [linCode_5 hP hl h2] at h; cases h
  · omega
 have hF:=(patchB_parts (trim_patch hP)).1
 have hp:=(formedB_parts (patchB_parts hP).1)
 have hw:=linM_w hF
 have ha:(linM (trimP p)).2.1.length=cellN (trimP p).2.2.1:=hw.a.1
 exact ⟨hP,hl,by rw [ha]; exact hw,by omega,rfl,by show (matC _ _ _).length=_; rw [matC_len]; simp [trimP,keepP,clsM],⟨hp.2.2.2.1,hp.2.2.2.2.1⟩,hp.2.1⟩
theorem linOk_sq {p:PatchD} (h:linOkP p):rowsSq (linM (trimP p)).2.1:=⟨h.w.a,by have:=h.n; omega⟩
theorem trn_render {p:PatchD} (h:linOkP p) {i o:Int} (hi:0≤i∧i < p.1) (ho:0≤o∧o < p.2.2.2.length) (n:Nat):(renderL p (impI p.1.toNat i) n).getD o.toNat []=rspL (linM (trimP p)) i o n:=render_rsp h.ok h.lin hi ho n
theorem trn_bd (p:PatchD) (i o:Int):(trnR p i o).1.1.length≤1000000∧(trnR p i o).1.2.length≤1000000:=by
 by_cases h:linCode p=0
 · have hk:=linOk_of h
   cases k:(inR i 0 (p.1 - 1) && inR o 0 ((p.2.2.2.length:Int) - 1)) with
   | false=>rw [trnR_2 h k]; exact ⟨by simp,by simp⟩
   | true =>
     rw [trnR_0 h k]
     simp only [trnL]
     have h1:=(trimL_len (convN (chN (linM (trimP p)).2.1 (linM (trimP p)).2.1.length) (rspL (linM (trimP p)) i o ((linM (trimP p)).2.1.length+1)) ((linM (trimP p)).2.1.length+1))).2
     have h2:=(trimL_len (chN (linM (trimP p)).2.1 (linM (trimP p)).2.1.length)).2
     rw [convN_len] at h1
     rw [chN_len] at h2
     have:=hk.n
     omega
 · rw [trnR_f h]; exact ⟨by simp,by simp⟩
theorem linR_2 (p:PatchD):(linR p).2=linCode p:=by
 by_cases h:linCode p=0
 · rw [linR_t h,h]
 · rw [linR_f h]
theorem linR_x {p:PatchD} {x:LinD} {c:Int} (h:linR p=(x,c)):c=linCode p∧(linCode p=0→linM (trimP p)=x):=by
 have h2:=linR_2 p
 rw [h] at h2
 refine ⟨h2,fun h0=>?_⟩
 rw [linR_t h0] at h
 exact congrArg Prod.fst h
theorem linOk_x {p:PatchD} {ni:Int} {la lb lc ld:List (List Int)} (hk:linOkP p) (h:linM (trimP p)=(ni,la,lb,lc,ld)):linW (ni,la,lb,lc,ld) la.length∧la.length≤24∧ni=p.1∧lc.length=p.2.2.2.length∧rowsSq la:=by
 have hw:=hk.w; have hn:=hk.n; have hi:=hk.i; have ho:=hk.o; have hs:=linOk_sq hk
 rw [h] at hw hn hi ho hs
 exact ⟨hw,hn,hi,ho,hs⟩
theorem trn_row {p:PatchD} (hk:linOkP p) {x:LinD} (hx:linM (trimP p)=x) {i o:Int} (hi:0≤i∧i < p.1) (ho:0≤o∧o < p.2.2.2.length) (n:Nat) {Y:List (List Int)} (hY:renderL p ((List.replicate p.1.toNat ([]:List Int)).set i.toNat [1]) n=Y):Y.length=p.2.2.2.length∧Y.getD o.toNat []=rspL x i o n:=by
 have hF:=(patchB_parts hk.ok).1
 have hin:insOk p (impI p.1.toNat i):=impI_ok (by omega) i
 have h1:=renderL_len hF hin n
 have h2:=trn_render hk hi ho n
 rw [hx] at h2
 unfold impI at h1 h2
 rw [hY] at h1 h2
 exact ⟨h1,h2⟩
/-! What the laws' own functions compute of transfer functions. -/
instance:DecidableEq TrD:=instDecidableEqProd
def ctTr (x:TrD):Nat:=x.1.length+x.2.length
def mkTr (k:Int) (x:TrD):TrD:=(markL k x.1,markL (k+x.1.length) x.2)
theorem ctTr_mk (k:Int) (x:TrD):ctTr (mkTr k x)=ctTr x:=by simp only [ctTr,mkTr,markA_len]
theorem mkTr_idem (k:Int) (x:TrD):mkTr k (mkTr k x)=mkTr k x:=by simp only [mkTr,markA_len,markL_idem]
def heldTr (k:Int) (x:TrD):Int:=match decide (x=mkTr k x) with | true=>k+ctTr x | false=>-1
theorem heldTr_f1 {k:Int} {a b:List Int} (h:¬ a=markL k a):heldTr k (a,b)=-1:=by
 unfold heldTr; rw [decide_eq_false]; intro e; exact h (congrArg (fun (z:TrD)=>z.1) e)
theorem heldTr_f2 {k:Int} {a b:List Int} (h:¬ b=markL (k+(a.length:Int)) b):heldTr k (a,b)=-1:=by
 unfold heldTr; rw [decide_eq_false]; intro e; exact h (congrArg (fun (z:TrD)=>z.2) e)
theorem heldTr_t {k:Int} {a b:List Int} (h1:a=markL k a) (h2:b=markL (k+(a.length:Int)) b):k+(a.length:Int)+(b.length:Int)=heldTr k (a,b):=by
 unfold heldTr
 rw [decide_eq_true (show (a,b)=mkTr k (a,b) from Prod.ext h1 h2)]
 simp only [ctTr]; omega
theorem heldTr_mark' (k:Int) (a b:List Int):heldTr k (markL k a,markL (k+(a.length:Int)) b)=k+(ctTr (a,b):Nat):=by
 unfold heldTr
 rw [decide_eq_true (show (markL k a,markL (k+(a.length:Int)) b)=mkTr k (markL k a,markL (k+(a.length:Int)) b) from (mkTr_idem k (a,b)).symm)]
 simp only [ctTr,markA_len]
end Go.Proofs.YtflaacndokbddaaGreat
namespace Go.Proofs.YtflaacndokbddaaGreat
open Go.RowKit
set_option linter.unusedSimpArgs false
set_option linter.unusedVariables false
set_option maxRecDepth 100000
set_option maxHeartbeats 1000000
def T_mHn70:Tab:=fun f=>match T_eqP f with
 | some k=>some k
 | none=>T_heldL f
theorem T_mHn70_ok:TabOk Tryz.prog T_mHn70:=tabM T_eqP_ok T_heldL_ok
attribute [go_sem] T_mHn70 T0
def K_eqTr:Con:=⟨[.val ((.prod (.row 2 (.int .i64)) (.row 2 (.int .i64)))),.val ((.prod (.row 2 (.int .i64)) (.row 2 (.int .i64))))],[⟨.bool,true⟩],fun _=>True,fun x=>eqD (α:=TrD) x.1 x.2.1⟩
theorem eqTr_ok:PureT Tryz.prog 40 K_eqTr:=by
  refine pure_of_body Tryz.func40 rfl ?_
  have hres:Tryz.f40.results.toList=[.tmp 4]:=rfl
  rintro ⟨⟨(xa:List Int),(xb:List Int)⟩,⟨(xa2:List Int),(xb2:List Int)⟩,_⟩ hc hL
  simp only [K_eqTr,go_sem] at hL
  simp only [K_eqTr,St.init,St.initG,Tryz.ntmps40,go_sem] 
  refine oS fun K1 hK1=>?_
  refine oW T_mHn70_ok ?_
  simp only [go_sem]
  refine hK1 _ ?_
  refine oS fun K2 hK2=>?_
  refine oS fun K3 hK3=>?_
  refine oW T_mHn70_ok ?_
  simp (maxSteps:=2000000) only [go_sem]
  repeat (with_reducible refine oA ?_)
  refine hK3 _ ?_
  refine oC rfl ?_ ?_
  ·
   intro c0
   refine oS fun K4 hK4=>?_
   refine oW T_mHn70_ok ?_
   simp only [go_sem]
   refine hK4 _ ?_
   refine AWP_ret ?_
   simp only [hres,go_sem]
   first | exact oF | (refine ⟨?_,oF⟩; clear hK1 hK2 hK3 hK4; simp_all [eqD])
  intro c0
  refine AWP_skip ?_
  simp only [go_sem]
  refine hK2 _ ?_
  refine oS fun K5 hK5=>?_
  refine oS fun K6 hK6=>?_
  refine oW T_mHn70_ok ?_
  simp (maxSteps:=2000000) only [go_sem]
  repeat (with_reducible refine oA ?_)
  refine hK6 _ ?_
  refine oC rfl ?_ ?_
  ·
   intro c1
   refine oS fun K7 hK7=>?_
   refine oW T_mHn70_ok ?_
   simp only [go_sem]
   refine hK7 _ ?_
   refine AWP_ret ?_
   simp only [hres,go_sem]
   first | exact oF | (refine ⟨?_,oF⟩; clear hK1 hK2 hK3 hK5 hK6 hK7; simp_all [eqD])
  intro c1
  refine AWP_skip ?_
  simp only [go_sem]
  refine hK5 _ ?_
  refine oS fun K8 hK8=>?_
  refine oW T_mHn70_ok ?_
  simp only [go_sem]
  refine hK8 _ ?_
  refine AWP_ret ?_
  simp only [hres,go_sem]
  first | exact oF | (refine ⟨?_,oF⟩; clear hK1 hK2 hK3 hK5 hK6 hK8; simp_all [eqD])
def T_eqTr:Tab:=fun f=>if f=40 then some (.p K_eqTr) else T_mHn70 f
theorem T_eqTr_ok:TabOk Tryz.prog T_eqTr:=tabP eqTr_ok (fnOk_of Tryz.func40 rfl (by decide)) T_mHn70_ok
attribute [go_sem] T_eqTr K_eqTr
def K_heldTr:Con:=⟨[.val ((.prod (.row 2 (.int .i64)) (.row 2 (.int .i64)))),.val (.int .i64)],[⟨.int .i64,true⟩],fun x=>mkOk x.2.1 (ctTr x.1),fun x=>heldTr x.2.1 x.1⟩
theorem heldTr_ok:PureT Tryz.prog 42 K_heldTr:=by
  refine pure_of_body Tryz.func42 rfl ?_
  have hres:Tryz.f42.results.toList=[.tmp 4]:=rfl
  rintro ⟨⟨(xa:List Int),(xb:List Int)⟩,(kk:Int),_⟩ hc hL
  simp only [K_heldTr,go_sem] at hL
  simp only [K_heldTr,St.init,St.initG,Tryz.ntmps42,go_sem] 
  obtain ⟨h1,h2⟩:=(show mkOk kk (ctTr (xa,xb)) from hc)
  have hcp:ctTr (xa,xb)=xa.length+xb.length:=rfl
  have hca:cntA ctI xa=xa.length:=cntI _
  have hcb:cntA ctI xb=xb.length:=cntI _
  refine oS fun K1 hK1=>?_
  refine oW T_eqTr_ok ?_
  simp only [go_sem]
  repeat (with_reducible first | refine oA ?_ | refine And.intro (by first | (rw [hca]; exact ⟨by omega,by omega⟩) | (rw [hcb]; exact ⟨by omega,by omega⟩)) ?_)
  refine hK1 _ ?_
  refine oS fun K2 hK2=>?_
  refine oW T_eqTr_ok ?_
  simp (maxSteps:=2000000) only [go_sem]
  repeat (with_reducible first | refine oA ?_ | refine And.intro (by first | (rw [hca]; exact ⟨by omega,by omega⟩) | (rw [hcb]; exact ⟨by omega,by omega⟩)) ?_)
  refine hK2 _ ?_
  refine oS fun K3 hK3=>?_
  refine oS fun K4 hK4=>?_
  refine oW T_eqTr_ok ?_
  simp only [go_sem]
  repeat (with_reducible first | refine oA ?_ | refine And.intro (by first | (rw [hca]; exact ⟨by omega,by omega⟩) | (rw [hcb]; exact ⟨by omega,by omega⟩)) ?_)
  refine hK4 _ ?_
  refine oC rfl ?_ ?_
  ·
   intro c0
   obtain ⟨e1,e2⟩:=heldA_neg (by omega) c0
   refine oS fun K5 hK5=>?_
   refine oW T_eqTr_ok ?_
   simp only [go_sem]
   repeat (with_reducible first | refine oA ?_ | refine And.intro (by first | (rw [hca]; exact ⟨by omega,by omega⟩) | (rw [hcb]; exact ⟨by omega,by omega⟩)) ?_)
   refine hK5 _ ?_
   refine AWP_ret ?_
   simp only [hres,go_sem]
   first | exact oF | (refine ⟨?_,oF⟩; exact (heldTr_f1 e2).symm)
  intro c0
  obtain ⟨e1,e2⟩:=heldA_pos c0
  rw [hca] at e1
  refine AWP_skip ?_
  simp only [go_sem]
  refine hK3 _ ?_
  refine oS fun K6 hK6=>?_
  refine oW T_eqTr_ok ?_
  simp (maxSteps:=2000000) only [go_sem]
  repeat (with_reducible first | refine oA ?_ | refine And.intro (by first | (rw [hca]; exact ⟨by omega,by omega⟩) | (rw [hcb]; exact ⟨by omega,by omega⟩)) ?_)
  refine hK6 _ ?_
  refine oS fun K7 hK7=>?_
  refine oS fun K8 hK8=>?_
  refine oW T_eqTr_ok ?_
  simp only [go_sem]
  repeat (with_reducible first | refine oA ?_ | refine And.intro (by first | (rw [hca]; exact ⟨by omega,by omega⟩) | (rw [hcb]; exact ⟨by omega,by omega⟩)) ?_)
  refine hK8 _ ?_
  refine oC rfl ?_ ?_
  ·
   intro c1
   obtain ⟨e3,e4⟩:=heldA_neg (by omega) c1
   refine oS fun K9 hK9=>?_
   refine oW T_eqTr_ok ?_
   simp only [go_sem]
   repeat (with_reducible first | refine oA ?_ | refine And.intro (by first | (rw [hca]; exact ⟨by omega,by omega⟩) | (rw [hcb]; exact ⟨by omega,by omega⟩)) ?_)
   refine hK9 _ ?_
   refine AWP_ret ?_
   simp only [hres,go_sem]
   first | exact oF | (refine ⟨?_,oF⟩; exact (heldTr_f2 (e1 ▸ e4)).symm)
  intro c1
  obtain ⟨e3,e4⟩:=heldA_pos c1
  rw [hcb] at e3
  refine AWP_skip ?_
  simp only [go_sem]
  refine hK7 _ ?_
  refine oS fun K10 hK10=>?_
  refine oW T_eqTr_ok ?_
  simp only [go_sem]
  repeat (with_reducible first | refine oA ?_ | refine And.intro (by first | (rw [hca]; exact ⟨by omega,by omega⟩) | (rw [hcb]; exact ⟨by omega,by omega⟩)) ?_)
  refine hK10 _ ?_
  refine AWP_ret ?_
  simp only [hres,go_sem]
  first
   | exact oF
   | refine ⟨?_,oF⟩
     rw [e1] at e4
     rw [e3,e1]
     exact heldTr_t e2 e4
def T_heldTr:Tab:=fun f=>if f=42 then some (.p K_heldTr) else T_eqTr f
theorem T_heldTr_ok:TabOk Tryz.prog T_heldTr:=tabP heldTr_ok (fnOk_of Tryz.func42 rfl (by decide)) T_eqTr_ok
attribute [go_sem] T_heldTr K_heldTr
def K_markTr:GCon where
  ps:=[.ag [.ow 0,.ow 1],.val (.int .i64)]
  os:=[.row 2 (.int .i64),.row 2 (.int .i64)]
  c:=fun x=>mkOk x.1.2.1 (ctTr (x.2.1,x.2.2.1))
  r:=fun x=>.c (.sc (.int .i64 (x.1.2.1+(ctTr (x.2.1,x.2.2.1):Nat))))
  o:=fun x=>[(30,.row 2 (.int .i64) (markL x.1.2.1 x.2.1) []),(31,.row 2 (.int .i64) (markL (x.1.2.1+(x.2.1.length:Int)) x.2.2.1) [])]
  ok:=by
    rintro ⟨⟨_,(kk:Int),_⟩,⟨(xa:List Int),(xb:List Int),_⟩⟩
    exact ⟨rfl,rfl,by decide⟩
theorem markTr_ok:GenT Tryz.prog 41 K_markTr:=by
  refine gen_of_body Tryz.func41 rfl ?_
  have hres:Tryz.f41.results.toList=[.tmp 4]:=rfl
  rintro ⟨⟨_,(kk:Int),_⟩,⟨(xa:List Int),(xb:List Int),_⟩⟩ hc hL hO
  simp only [K_markTr,go_sem] at hL
  simp only [K_markTr,go_sem] at hO
  simp only [K_markTr,St.init,St.initG,Tryz.ntmps41,go_sem] 
  obtain ⟨h1,h2⟩:=(show mkOk kk (ctTr (xa,xb)) from hc)
  have hcp:ctTr (xa,xb)=xa.length+xb.length:=rfl
  refine oS fun K1 hK1=>?_
  refine oW T_heldTr_ok ?_
  simp only [go_sem]
  repeat (with_reducible first | refine oA ?_ | refine And.intro (by first | exact ⟨by omega,by omega⟩) ?_)
  refine hK1 _ ?_
  refine oS fun K2 hK2=>?_
  refine oW T_heldTr_ok ?_
  simp (maxSteps:=2000000) only [go_sem]
  repeat (with_reducible first | refine oA ?_ | refine And.intro (by first | exact ⟨by omega,by omega⟩) ?_)
  refine hK2 _ ?_
  refine oS fun K3 hK3=>?_
  refine oW T_heldTr_ok ?_
  simp (maxSteps:=2000000) only [go_sem]
  repeat (with_reducible first | refine oA ?_ | refine And.intro (by first | exact ⟨by omega,by omega⟩) ?_)
  refine hK3 _ ?_
  refine oS fun K4 hK4=>?_
  refine oW T_heldTr_ok ?_
  simp only [go_sem]
  repeat (with_reducible first | refine oA ?_ | refine And.intro (by first | exact ⟨by omega,by omega⟩) ?_)
  refine hK4 _ ?_
  refine AWP_ret ?_
  simp only [hres,go_sem]
  first | exact oG | (refine ⟨oG,?_⟩; (repeat' refine And.intro ?_ ?_)<;>first | rfl | (rw [hcp]; omega) | omega)
def T_markTr:Tab:=fun f=>if f=41 then some (.g K_markTr) else T_heldTr f
theorem T_markTr_ok:TabOk Tryz.prog T_markTr:=tabG markTr_ok (fnOk_of Tryz.func41 rfl (by decide)) T_heldTr_ok
attribute [go_sem] T_markTr K_markTr
end Go.Proofs.YtflaacndokbddaaGreat
