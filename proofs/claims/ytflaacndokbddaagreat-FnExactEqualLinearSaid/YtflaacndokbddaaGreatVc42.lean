/-
  Texts of this claim, joined (part 42). No condition beyond those of the theorems.
-/
import Derived.Test.YtflaacndokbddaaGreatVc41
import Derived.Test.YtflaacndokbddaaGreatVc05
import Derived.Test.YtflaacndokbddaaGreatVc31
import Derived.Test.YtflaacndokbddaaGreatVc09
import Derived.Test.YtflaacndokbddaaGreatVc37
import Derived.Test.YtflaacndokbddaaGreatVc39
import Derived.Test.YtflaacndokbddaaGreatVc02
namespace Go.Proofs.YtflaacndokbddaaGreat
open Go.RowKit
set_option linter.unusedSimpArgs false
set_option linter.unusedVariables false
set_option maxRecDepth 100000
set_option maxHeartbeats 1000000
def T_mGa70:Tab:=fun f=>match T_isWellFormed f with
 | some k=>some k
 | none=>T_order f
theorem T_mGa70_ok:TabOk Tryz.prog T_mGa70:=tabM T_isWellFormed_ok T_order_ok
attribute [go_sem] T_mGa70 T0
def K_isPatch:Con:=⟨[.val ((.prod (.int .i64) (.prod (.row 26 (.row 2 (.int .i64))) (.prod (.row 90 (.prod (.int .i64) (.prod (.int .i64) (.prod (.int .i64) (.row 2 (.int .i64)))))) (.row 2 (.int .i64))))))],[⟨.bool,true⟩],fun _=>True,fun x=>patchB x.1⟩
theorem isPatch_ok:PureT Tryz.prog 47 K_isPatch:=by
  refine pure_of_body Tryz.func47 rfl ?_
  have hres:Tryz.f47.results.toList=[.tmp 2]:=rfl
  rintro ⟨⟨(pi:Int),(ts:List (List Int)),(ns:List NodeD),(os:List Int)⟩,_⟩ hc hL
  simp only[K_isPatch,go_sem] at hL
  obtain ⟨⟨lts,lts2⟩,⟨lns,lns2⟩,los⟩:=hL
  simp only[K_isPatch,St.init,St.initG,Tryz.ntmps47,go_sem] 
  refine oS fun _ hK1=>?_
  refine oW T_mGa70_ok ?_
  simp only[go_sem]
  repeat (with_reducible first | refine oA ?_ | refine And.intro (by first | clear hK1; simp_all) ?_)
  refine hK1 _ ?_
  refine oS fun _ hK2=>?_
  refine oR T_mGa70_ok
    [[],[0],[0,1],[0,1,2],[0,1,2,3],[0,1,2,3,4],[0,1,2],[0,1,2,6],[0,1,2,6,7],[0,1,2,3,4,5,6,7,8],[0,1,2,3,4,5,6,7,8,9],[0,1,2,3,4,5,6,7,8,9,10]]
    [[],[],[],[],[],[],[212,213,214,215,216,217,218,219,220,221,222,223,224,225,226,227],[212,213,214,215,216,217,218,219,220,221,222,223,224,225,226,227],[212,213,214,215,216,217,218,219,220,221,222,223,224,225,226,227],[],[],[]]
    [[],[],[],[],[212,213,214,215,216,217,218,219,220,221,222,223,224,225,226,227],[],[],[],[],[],[],[]] (by kernel_rfl) (by kernel_rfl) (adrawR_ok (acc:=[]) ?_)
  simp (maxSteps:=2000000)only[go_sem]
  repeat' (with_reducible first | refine oD ?_ | refine And.intro (by first | clear hK1 hK2; simp_all) ?_ | refine oT (fun g1=>?_) (fun g1=>?_) | refine oE (fun g1=>?_) (fun g1=>?_))
  all_goals
   refine hK2 _ ?_
   refine AWP_ret ?_
   simp only[hres,go_sem]
   first | exact oF | (refine ⟨?_,oF⟩; clear hK1 hK2; simp_all [patchB]<;>first | rfl | exact decide_eq_decide.2 (by omega))
def T_isPatch:Tab:=fun f=>if f=47 then some (.p K_isPatch) else T_mGa70 f
theorem T_isPatch_ok:TabOk Tryz.prog T_isPatch:=tabP isPatch_ok (fnOk_of Tryz.func47 rfl (by decide)) T_mGa70_ok
attribute [go_sem] T_isPatch K_isPatch
def T_unionCode:Tab:=T_isPatch
attribute [go_sem] T_unionCode
set_option maxRecDepth 100000
set_option maxHeartbeats 1000000
def T_mHt10:Tab:=fun f=>match T_isPatch f with
 | some k=>some k
 | none=>T_clones f
theorem T_mHt10_ok:TabOk Tryz.prog T_mHt10:=tabM T_isPatch_ok T_clones_ok
attribute [go_sem] T_mHt10 T0
def T_mHt11:Tab:=fun f=>match T_mHt10 f with
 | some k=>some k
 | none=>T_l07Map f
theorem T_mHt11_ok:TabOk Tryz.prog T_mHt11:=tabM T_mHt10_ok T_l07Map_ok
attribute [go_sem] T_mHt11 T0
def K_playerOf:GCon where
  ps:=[.val ((.prod (.int .i64) (.prod (.row 26 (.row 2 (.int .i64))) (.prod (.row 90 (.prod (.int .i64) (.prod (.int .i64) (.prod (.int .i64) (.row 2 (.int .i64)))))) (.row 2 (.int .i64)))))),.one ((.row 26 (.row 2 (.int .i64))))]
  os:=[]
  c:=fun x=>patchB x.1.1=true∧StOk x.1.1 x.1.2.1
  r:=fun x=>.c (.po 10 0)
  o:=fun x=>[(10,.box [.sc (.int .i64 (x.1.1.1)),.rd [] 26 ((.row 2 (.int .i64))) (x.1.1.2.1),.rd [] 90 ((.prod (.int .i64) (.prod (.int .i64) (.prod (.int .i64) (.row 2 (.int .i64)))))) (x.1.1.2.2.1),.rd [] 2 (.int .i64) (x.1.1.2.2.2),.ow 11,.ow 12,.ow 13]),(11,.row 2 (.int .i64) (ordL x.1.1.2.2.1) []),(12,.row 2 (.int .i64) (List.replicate x.1.1.2.2.1.length 0) []),(13,.tree 26 (.row 2 (.int .i64)) (x.1.2.1) none)]
  ok:=by
    rintro ⟨⟨⟨(pi:Int),(ts:List (List Int)),(ns:List NodeD),(os:List Int)⟩,(cc:List (List Int)),_⟩,_⟩
    exact ⟨rfl,rfl,by decide⟩
theorem playerOf_ok:GenT Tryz.prog 132 K_playerOf:=by
  refine gen_of_body Tryz.func132 rfl ?_
  have hres:Tryz.f132.results.toList=[.tmp 4]:=rfl
  rintro ⟨⟨⟨(pi:Int),(ts:List (List Int)),(ns:List NodeD),(os:List Int)⟩,(cc:List (List Int)),_⟩,_⟩ hc hL hO
  simp only[K_playerOf,go_sem] at hL
  simp only[K_playerOf,go_sem] at hO
  simp only[K_playerOf,St.init,St.initG,Tryz.ntmps132,go_sem] 
  obtain ⟨hP,hs1,hs2⟩:=(show patchB (pi,ts,ns,os)=true∧StOk (pi,ts,ns,os) cc from hc)
  have hF:=(patchB_parts hP).1
  have hn24:ns.length≤24:=(formedB_parts hF).1
  have hs1:cc.length=ns.length:=hs1
  have hfc:fitsL cc:=fitsL_st hF ⟨hs1,hs2⟩
  refine oS fun _ hK1=>?_
  refine oW T_mHt11_ok ?_
  simp only[go_sem]
  repeat (with_reducible first | refine oA ?_ | refine And.intro (by first | exact hF | exact inR_iff.2 (by omega) | exact hfc) ?_)
  refine hK1 _ ?_
  refine oS fun _ hK2=>?_
  refine oR T_mHt11_ok
    [[],[],[1],[],[3],[1,2,3,4],[1,2,3,4,5],[],[7],[1,2,3,4,5,6,7,8],[0,1,2,3,4,5,6,7,8,9],[0,1,2,3,4,5,6,7,8,9,10],[0,1,2,3,4,5,6,7,8,9,10,11]]
    [[212,213,214,215,216,217,218,219,220,221,222,223,224,225,226,227,276,277,278,279,280,281,282,283,284,285,286,287,288,289,290,291,324,325,326,327,328,329,330,331,332,333,334,335,336,337,338,339],[],[],[212,213,214,215,216,217,218,219,220,221,222,223,224,225,226,227],[212,213,214,215,216,217,218,219,220,221,222,223,224,225,226,227],[],[],[212,213,214,215,216,217,218,219,220,221,222,223,224,225,226,227,276,277,278,279,280,281,282,283,284,285,286,287,288,289,290,291],[212,213,214,215,216,217,218,219,220,221,222,223,224,225,226,227,276,277,278,279,280,281,282,283,284,285,286,287,288,289,290,291],[],[],[],[]]
    [[],[],[212,213,214,215,216,217,218,219,220,221,222,223,224,225,226,227],[],[],[],[276,277,278,279,280,281,282,283,284,285,286,287,288,289,290,291],[],[],[324,325,326,327,328,329,330,331,332,333,334,335,336,337,338,339],[],[],[]] (by kernel_rfl) (by kernel_rfl) (adrawR_ok (acc:=[]) ?_)
  simp (maxSteps:=2000000)only[go_sem]
  repeat (with_reducible first | refine oD ?_ | refine And.intro (by first | exact hF | exact inR_iff.2 (by omega) | exact hfc) ?_)
  refine hK2 _ ?_
  refine AWP_ret ?_
  simp only[hres,go_sem]
  first | exact oG | (refine ⟨oG,?_⟩; (repeat' refine And.intro ?_ ?_)<;>first | rfl | (congr 1; done) | simp)
def T_playerOf:Tab:=fun f=>if f=132 then some (.g K_playerOf) else T_mHt11 f
theorem T_playerOf_ok:TabOk Tryz.prog T_playerOf:=tabG playerOf_ok (fnOk_of Tryz.func132 rfl (by decide)) T_mHt11_ok
attribute [go_sem] T_playerOf K_playerOf
set_option maxRecDepth 100000
set_option maxHeartbeats 4000000
def T_mHm50:Tab:=fun f=>match T_colsRows f with
 | some k=>some k
 | none=>T_frame f
theorem T_mHm50_ok:TabOk Tryz.prog T_mHm50:=tabM T_colsRows_ok T_frame_ok
attribute [go_sem] T_mHm50 T0
def T_mHm51:Tab:=fun f=>match T_mHm50 f with
 | some k=>some k
 | none=>T_playerOf f
theorem T_mHm51_ok:TabOk Tryz.prog T_mHm51:=tabM T_mHm50_ok T_playerOf_ok
attribute [go_sem] T_mHm51 T0
def K_probe:GCon where
  ps:=[.val ((.row 2 (.int .i64))),.val ((.row 2 (.int .i64))),.po 0]
  os:=[.box [.rd ((.prod (.int .i64) (.prod (.row 26 (.row 2 (.int .i64))) (.prod (.row 90 (.prod (.int .i64) (.prod (.int .i64) (.prod (.int .i64) (.row 2 (.int .i64)))))) (.row 2 (.int .i64))))))]]
  c:=fun x=>patchB x.2.1.1=true∧x.1.1.length=cellN x.2.1.1.2.2.1∧smps x.1.1=true∧(x.1.2.1.length:Int)=x.2.1.1.1∧smps x.1.2.1=true
  r:=fun _=>.tup [.c (.ow 10),.c (.ow 11)]
  o:=fun x=>[(10,.row 2 (.int .i64) ((colM x.2.1.1 x.1.1 x.1.2.1).1) []),(11,.row 2 (.int .i64) ((colM x.2.1.1 x.1.1 x.1.2.1).2) []),(30,.box [.sc (.int .i64 (x.2.1.1.1)),.rd [] 26 ((.row 2 (.int .i64))) (x.2.1.1.2.1),.rd [] 90 ((.prod (.int .i64) (.prod (.int .i64) (.prod (.int .i64) (.row 2 (.int .i64)))))) (x.2.1.1.2.2.1),.rd [] 2 (.int .i64) (x.2.1.1.2.2.2)])]
  ok:=by
    rintro ⟨⟨(cs:List Int),(ff:List Int),_⟩,⟨⟨⟨(pi:Int),(ts:List (List Int)),(ns:List NodeD),(os:List Int)⟩,_⟩,_⟩⟩
    exact ⟨rfl,rfl,by decide⟩
theorem probe_ok:GenT Tryz.prog 131 K_probe:=by
  refine gen_of_body Tryz.func131 rfl ?_
  have hres:Tryz.f131.results.toList=[.tmp 5,.tmp 6]:=rfl
  rintro ⟨⟨(cs:List Int),(ff:List Int),_⟩,⟨⟨⟨(pi:Int),(ts:List (List Int)),(ns:List NodeD),(os:List Int)⟩,_⟩,_⟩⟩ hc hL hO
  simp only[K_probe,go_sem] at hL
  simp only[K_probe,go_sem] at hO
  simp only[K_probe,St.init,St.initG,Tryz.ntmps131,go_sem] 
  obtain ⟨hP,hcl,hcs,hfl,hff⟩:=(show patchB (pi,ts,ns,os)=true∧cs.length=cellN ns∧smps cs=true∧(ff.length:Int)=pi∧smps ff=true from hc)
  have hF:=(patchB_parts hP).1
  have hn24:ns.length≤24:=(formedB_parts hF).1
  have hS:StOk (pi,ts,ns,os) (setS ns cs):=setS_ok (q:=(pi,ts,ns,os)) hcl hcs
  have hfs:formedB (pi,ts,ns,os)=true∧cs.length=cellN ns:=⟨hF,hcl⟩
  obtain ⟨cc,hcc⟩ :∃cc,setS ns cs=cc:=⟨_,rfl⟩
  rw [hcc] at hS
  have hvo:=valsL_ok' (p:=(pi,ts,ns,os)) (s:=cc) (fr:=ff) hF hS hff
  have hos:os.length≤1000∧idxs (valsL (pi,ts,ns,os) cc ff).length os=true:=⟨by have:=(formedB_parts hF).2.1; show os.length≤1000; have h:os.length≤4:=this; omega,by rw [hvo.1]; exact (formedB_parts hF).2.2.2.2.2.1⟩
  have hpl:playL (pi,ts,ns,os) (List.replicate ns.length 0) cc ff=(valsL (pi,ts,ns,os) cc ff,nextL (pi,ts,ns,os) cc ff (valsL (pi,ts,ns,os) cc ff)):=play_eq (p:=(pi,ts,ns,os)) hP (by simp) hS.1
  have hnl:(nextL (pi,ts,ns,os) cc ff (valsL (pi,ts,ns,os) cc ff)).flatten.length≤1000000:=by have h:=(colM_len hF hcl hcs hff).1; have h2:=cellN_384 hF; rw [show (nextL (pi,ts,ns,os) cc ff (valsL (pi,ts,ns,os) cc ff)).flatten.length=(colM (pi,ts,ns,os) cs ff).1.length by unfold colM; rw [show setS (pi,ts,ns,os).2.2.1 cs=cc from hcc],h]; omega
  have hcm:colM (pi,ts,ns,os) cs ff=((nextL (pi,ts,ns,os) cc ff (valsL (pi,ts,ns,os) cc ff)).flatten,outsL (pi,ts,ns,os) (valsL (pi,ts,ns,os) cc ff)):=by unfold colM; rw [show setS (pi,ts,ns,os).2.2.1 cs=cc from hcc]
  refine oS fun _ hK1=>?_
  refine oW T_mHm51_ok ?_
  simp only[go_sem]
  refine hK1 _ ?_
  refine oS fun _ hK2=>?_
  refine oR T_mHm51_ok
    [[],[],[],[1,2],[0,1,2,3],[0,1,2,3,4]]
    [[276,277,278,279,280,281,282,283,284,285,286,287,288,289,290,291],[],[],[],[],[]]
    [[],[],[],[276,277,278,279,280,281,282,283,284,285,286,287,288,289,290,291],[],[]] (by kernel_rfl) (by kernel_rfl) (adrawR_ok (acc:=[]) ?_)
  simp (maxSteps:=2000000)only[List.nodup_cons,List.nodup_nil,List.not_mem_nil,not_false_eq_true,hcc,go_sem]
  repeat (with_reducible first | refine oD ?_ | refine And.intro (by first | exact hfs | exact ⟨hP,hS⟩) ?_)
  refine hK2 _ ?_
  refine oS fun _ hK3=>?_
  refine oW T_mHm51_ok ?_
  simp only[hpl,go_sem]
  repeat (with_reducible first | refine oA ?_ | refine And.intro (by first | exact ⟨hP,rfl,vals0_ok (pi,ts,ns,os),hS,hfl,hff⟩ | exact ⟨hP,vals0_ok (pi,ts,ns,os),hS,hfl,hff⟩) ?_)
  refine hK3 _ ?_
  refine oS fun _ hK4=>?_
  refine oW T_mHm51_ok ?_
  simp (maxSteps:=2000000)only[go_sem]
  repeat (with_reducible first | refine oA ?_ | refine And.intro (by first | exact hnl | exact hos) ?_)
  refine hK4 _ ?_
  refine AWP_ret ?_
  simp only[hres,go_sem]
  first
   | exact oG
   | refine ⟨oG,?_⟩
     rw [hcm]
     (repeat' refine And.intro ?_ ?_)<;>first | rfl | (congr 1; done)
def T_probe:Tab:=fun f=>if f=131 then some (.g K_probe) else T_mHm51 f
theorem T_probe_ok:TabOk Tryz.prog T_probe:=tabG probe_ok (fnOk_of Tryz.func131 rfl (by decide)) T_mHm51_ok
attribute [go_sem] T_probe K_probe
open Go.RowKit
def St.freeR (σ:St) (n:Nat):St:=match σ.look n with
 | some (.row e t xs [])=>⟨freeBL n e t xs σ.tm,freeBO n e t xs σ.ob⟩
 | _=>σ
theorem Wk_freeR (σ:St) (n:Nat) (hn:5 < n):Wk σ (σ.freeR n):=fun R0 w0 R a w hs=>by
 unfold St.freeR
 split
 case h_2=>exact ⟨R,hs⟩
 rename_i e t xs he
 obtain ⟨R',hR'⟩ :∃R':Rz,R'={ R with root:=fun b=>if R.root b=n then 0 else R.root b }:=⟨_,rfl⟩
 have hok :∀S b,okS R S b→okS R' S b:=fun S b hb=>by
  show R'.root b=0∨R'.root b∈S
  rw [hR']
  simp only
  split
  · exact .inl rfl
  · exact hb
 have hrt :∀b m,m≠n→R.root b=m→R'.root b=m:=fun b m hm hb=>by rw [hR']; simp [hb,hm]
 have hbk :∀m,R'.bk m=R.bk m:=fun m=>by rw [hR']
 have hhd :∀m,R'.hd m=R.hd m:=fun m=>by rw [hR']
 have hC :∀(c:CV) (u:Value),VRc R w c u→VRc R' w (c.kill [] [n]) u:=fun c u h=>by
  unfold CV.kill
  split
  · trivial
  · rename_i hh
    simp only[CV.hit,Bool.or_eq_true,not_or,Bool.not_eq_true] at hh
    have hI:=any_false hh.2
    cases c with
    | sc v=>exact h
    | rd S e t xs=>exact Rd.mono h (hok S)
    | pt S t x k =>
      obtain ⟨b,q,us,rfl,h1,h2,h3,h4⟩:=h
      exact ⟨b,q,us,rfl,hok S b h1,h2,h3,h4.mono (hok S)⟩
    | ow m=>show u=_; rw [hhd]; exact h
    | po m k=>show u=.pointer (some ⟨_,k,none⟩); rw [hbk]; exact h
    | pe m i wd k=>show u=.pointer (some ⟨_,i * wd+k,none⟩); rw [hbk]; exact h
    | sub m i wd o e t xs =>
      have hm:m≠n:=by have:=hI m (by simp [CV.ids]); simpa using this
      obtain ⟨h1,h2,h3⟩:=h
      refine ⟨by rw [hbk]; exact h1,by rw [hbk]; exact hrt _ _ hm h2,?_⟩
      rcases h3 with h3 | ⟨b,cap,cur,k1,k2,k3,k4,k5,k6,k7⟩
      · exact .inl h3
      · exact .inr ⟨b,cap,cur,k1,hrt _ _ hm k2,k3,k4,k5,k6,fun j hj=>(k7 j hj).mono (hok [])⟩
    | pi m i wd o j t x k =>
      have hm:m≠n:=by have:=hI m (by simp [CV.ids]); simpa using this
      obtain ⟨b,l,cap,us,h1,h2,h3,h4,h5,h6,h7⟩:=h
      exact ⟨b,l,cap,us,by rw [hbk]; exact h1,by rw [hbk]; exact hrt _ _ hm h2,hrt _ _ hm h3,h4,h5,h6,h7.mono (hok [m])⟩
    | fn f l =>
      have h:u=_:=h
      show u=_
      rw [h]
      congr 2
      exact List.map_congr_left fun m _=>by rw [hbk]
    | bot=>trivial
 have hCs :∀(l:List CV) (us:List Value),VRs R w l us→VRs R' w (l.map (CV.kill [] [n])) us:=by
  intro l
  induction l with
  | nil=>intro us h; exact h
  | cons c l ih=>intro us h; obtain ⟨u,us',rfl,h1,h2⟩:=h; exact ⟨u,us',rfl,hC c u h1,ih us' h2⟩
 have hA :∀(x:AV) (u:Value),VR R w x u→VR R' w (x.kill [] [n]) u:=by
  intro x
  refine AV.rec (motive_1:=fun x=>∀ u,VR R w x u→VR R' w (x.kill [] [n]) u) (motive_2:=fun l=>∀ us,VRt R w l us→VRt R' w (AV.killL [] [n] l) us) ?_ ?_ ?_ ?_ ?_ x
  · intro c u h; simp only[VR,AV.kill] at h ⊢; exact hC c u h
  · intro l u h; simp only[VR,AV.kill] at h ⊢; obtain ⟨us,rfl,h1⟩:=h; exact ⟨us,rfl,hCs l _ h1⟩
  · intro l ih u h; simp only[VR,AV.kill] at h ⊢; obtain ⟨us,rfl,h1⟩:=h; exact ⟨us,rfl,ih _ h1⟩
  · intro us h; simpa only [VRt,AV.killL] using h
  · intro x l h1 h2 us h; simp only[VRt,AV.killL] at h ⊢; obtain ⟨u,us',rfl,h3,h4⟩:=h; exact ⟨u,us',rfl,h1 u h3,h2 us' h4⟩
 have hok2 :∀b,okS R [n] b→okS R' [] b:=fun b hb=>by
  left
  rw [hR']
  simp only
  rcases hb with hb | hb
  · split<;>simp_all
  · simp at hb; rw [if_pos hb]
 have hrow:Rd (okS R' []) w (.row e t) [R.hd n] xs:=by
  have h1:=row_reads (p:=.ow n) hs (u:=R.hd n) rfl (e:=e) (t:=t) (xs:=xs) (by simp [rowOf,he])
  have h2:srcOf σ (.ow n)=[n]:=by simp [srcOf,he]
  rw [h2] at h1
  exact h1.mono hok2
 have hD :∀(c:CV) (u:Value),VRc R w c u→VRc R' w (freeCV n e t xs c) u:=fun c u h=>by
  unfold freeCV
  split
  · rename_i m
    split
    · rename_i e1
      subst e1
      have h:u=_:=h
      show Rd _ _ _ _ _
      rw [h]; exact hrow
    · show u=_; rw [hhd]; exact h
  · exact hC _ _ h
 have hDs :∀(l:List CV) (us:List Value),VRs R w l us→VRs R' w (l.map (freeCV n e t xs)) us:=by
  intro l
  induction l with
  | nil=>intro us h; exact h
  | cons c l ih=>intro us h; obtain ⟨u,us',rfl,h1,h2⟩:=h; exact ⟨u,us',rfl,hD c u h1,ih us' h2⟩
 have hL :∀(l:List AV) (us:List Value),VRt R w l us→VRt R' w (freeBL n e t xs l) us:=by
  intro l
  induction l with
  | nil=>intro us h; simpa only [VRt,freeBL] using h
  | cons x l ih =>
    intro us h
    simp only[VRt,freeBL] at h ⊢
    obtain ⟨u,us',rfl,h1,h2⟩:=h
    refine ⟨u,us',rfl,?_,ih us' h2⟩
    unfold freeBA
    split
    · simp only[VR] at h1 ⊢; exact hD _ _ h1
    · simp only[VR] at h1 ⊢
      obtain ⟨vs,rfl,h3⟩:=h1
      exact ⟨vs,rfl,hDs _ _ h3⟩
    · exact hA _ _ h1
 have hO :∀l,obsOk R w l→obsOk R' w (freeBO n e t xs l):=by
  intro l
  induction l with
  | nil=>intro _ p hp; simp [freeBO] at hp
  | cons q l ih =>
    intro hl p hp
    have h1:=hl q List.mem_cons_self
    have ih':=ih (fun p hp=>hl p (List.mem_cons_of_mem _ hp))
    simp only[freeBO] at hp
    split at hp
    · exact ih' p hp
    · rename_i hq
      obtain ⟨m,o⟩:=q
      simp only at hq h1 hp
      cases o with
      | box cs =>
        simp only[List.mem_cons] at hp
        rcases hp with rfl | hp
        · obtain ⟨us,T,g1,g2,g3⟩:=h1
          exact ⟨us,T,by simp only; rw [hbk]; exact g1,by simp only; rw [hbk]; exact hrt _ _ hq g2,hDs _ _ g3⟩
        · exact ih' p hp
      | row e' t' xs' S' =>
        simp only[List.mem_cons] at hp
        rcases hp with rfl | hp
        · rcases h1 with ⟨g1,g2⟩ | ⟨cap,cur,g1,g2,g3,g4,g5,g6,g7⟩
          · exact .inl ⟨by simp only; rw [hhd]; exact g1,g2⟩
          · exact .inr ⟨cap,cur,by simp only; rw [hhd,hbk]; exact g1,by simp only; rw [hbk]; exact hrt _ _ hq g2,by simp only; rw [hbk]; exact g3,g4,g5,g6,fun i hi=>(g7 i hi).mono (hok S')⟩
        · exact ih' p hp
      | tree e' t' xs' h' =>
        simp only[List.mem_cons] at hp
        rcases hp with rfl | hp
        · rcases h1 with ⟨g1,g2⟩ | ⟨cap,cur,g1,g2,g3,g4,g5,g6,g7,g8⟩
          · exact .inl ⟨by simp only; rw [hhd]; exact g1,g2⟩
          · exact .inr ⟨cap,cur,by simp only; rw [hhd,hbk]; exact g1,by simp only; rw [hbk]; exact hrt _ _ hq g2,by simp only; rw [hbk]; exact g3,g4,g5,g6,fun i hi hh=>(g7 i hi hh).mv fun c b l k _ hr hlt=>⟨rfl,hrt _ _ hq hr⟩,by simp only; rw [hbk]; exact g8⟩
        · exact ih' p hp
 have hv:=hL _ _ hs.tm
 refine ⟨R',?_,hv,hO _ hs.ob,hs.os,hs.tape,hs.output,hs.grow,fun b hb hr=>?_,fun m h1 h2=>⟨(hhd m).trans (hs.pl m h1 h2).1,(hbk m).trans (hs.pl m h1 h2).2⟩,hs.defers⟩
 · have:=hv.length; simp only; rw [← this]; simp
 · obtain ⟨k1,k2⟩:=hs.keep b hb hr
   refine ⟨k1,?_⟩
   rw [hR']
   simp only
   rw [if_neg (by rw [k2]; omega)]
   exact k2
attribute [go_sem] St.freeR
end Go.Proofs.YtflaacndokbddaaGreat
