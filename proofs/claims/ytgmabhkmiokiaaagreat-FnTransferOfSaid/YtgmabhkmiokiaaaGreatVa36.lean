/-
  Texts of this claim, joined (part 36). No condition beyond those of the theorems.
-/
import Derived.Test.YtgmabhkmiokiaaaGreatVa35
import Derived.Test.YtgmabhkmiokiaaaGreatVa25
namespace Go.Proofs.YtgmabhkmiokiaaaGreat
open Go.RowKit
set_option linter.unusedSimpArgs false
set_option linter.unusedVariables false
set_option maxRecDepth 100000
set_option maxHeartbeats 16000000
def T_mHb130:Tab:=fun f=>match T_frameO f with
 | some k=>some k
 | none=>T_l08Signals f
theorem T_mHb130_ok:TabOk Tryz.prog T_mHb130:=tabM T_frameO_ok T_l08Signals_ok
attribute [go_sem] T_mHb130 T0
def K_plBlock:GCon where
  ps:=[.po 0,.val ((.row 26 (.row 2 (.int .i64)))),.val (.int .i64),.val (.int .i64)]
  os:=[.box [.rd ((.prod (.int .i64) (.prod (.row 26 (.row 2 (.int .i64))) (.prod (.row 93 (.prod (.int .i64) (.prod (.int .i64) (.prod (.int .i64) (.row 2 (.int .i64)))))) (.row 2 (.int .i64)))))),.ow 1,.ow 2,.ow 3],.row 2 (.int .i64),.row 2 (.int .i64),.tree 26 (.row 2 (.int .i64))]
  c:=fun x=>patchB x.2.1.1=true∧x.2.2.1=ordL x.2.1.1.2.2.1∧valsOk x.2.1.1 x.2.2.2.1∧StOk x.2.1.1 x.2.2.2.2.1∧insOk x.2.1.1 x.1.2.1∧0≤x.1.2.2.1∧0≤x.1.2.2.2.1∧x.1.2.2.1+x.1.2.2.2.1≤1000000
  r:=fun _=>.c (.ow 10)
  o:=fun x=>[(30,.box [.sc (.int .i64 (x.2.1.1.1)),.rd [] 26 ((.row 2 (.int .i64))) (x.2.1.1.2.1),.rd [] 93 ((.prod (.int .i64) (.prod (.int .i64) (.prod (.int .i64) (.row 2 (.int .i64)))))) (x.2.1.1.2.2.1),.rd [] 2 (.int .i64) (x.2.1.1.2.2.2),.ow 31,.ow 32,.ow 33]),(31,.row 2 (.int .i64) (x.2.2.1) []),(32,.row 2 (.int .i64) (lastV x.2.1.1 x.1.2.1 x.1.2.2.1 x.2.2.2.1 (x.2.2.2.2.1,List.replicate x.2.1.1.2.2.2.length []) (Int.toNat x.1.2.2.2.1)) []),(33,.tree 26 (.row 2 (.int .i64)) ((blockSt x.2.1.1 x.1.2.1 x.1.2.2.1 (Int.toNat x.1.2.2.2.1) (x.2.2.2.2.1,List.replicate x.2.1.1.2.2.2.length [])).1) none),(10,.tree 26 (.row 2 (.int .i64)) ((blockSt x.2.1.1 x.1.2.1 x.1.2.2.1 (Int.toNat x.1.2.2.2.1) (x.2.2.2.2.1,List.replicate x.2.1.1.2.2.2.length [])).2) none)]
  ok:=by
    rintro ⟨⟨_,(ins:List (List Int)),(frm:Int),(nn:Int),_⟩,⟨⟨⟨(pi:Int),(ts:List (List Int)),(ns:List NodeD),(os:List Int)⟩,_⟩,(oo:List Int),(vv:List Int),(cc:List (List Int)),_⟩⟩
    exact ⟨rfl,rfl,by decide⟩
theorem plBlock_ok:GenT Tryz.prog 81 K_plBlock:=by
  refine gen_of_body Tryz.func81 rfl ?_
  have hres:Tryz.f81.results.toList=[.tmp 8]:=rfl
  rintro ⟨⟨_,(ins:List (List Int)),(frm:Int),(nn:Int),_⟩,⟨⟨⟨(pi:Int),(ts:List (List Int)),(ns:List NodeD),(os:List Int)⟩,_⟩,(oo:List Int),(vv:List Int),(cc:List (List Int)),_⟩⟩ hc hL hO
  simp only[K_plBlock,go_sem] at hL
  simp only[K_plBlock,go_sem] at hO
  simp only[K_plBlock,St.init,St.initG,Tryz.ntmps81,go_sem] 
  obtain ⟨hP,hoo,hvv,hcc,hin,hfr,hnn,hfn⟩:=(show patchB (pi,ts,ns,os)=true∧oo=ordL (pi,ts,ns,os).2.2.1∧valsOk (pi,ts,ns,os) vv∧StOk (pi,ts,ns,os) cc∧insOk (pi,ts,ns,os) ins∧0≤frm∧0≤nn∧frm+nn≤1000000 from hc)
  have hoo:oo=ordL ns:=hoo
  subst hoo;obtain ⟨hF,hol⟩:=patchB_parts hP
  have hn24:ns.length≤24:=(formedB_parts hF).1
  have ho4:os.length≤4:=(formedB_parts hF).2.1
  have hpi0:0≤pi∧pi≤4:=⟨(formedB_parts hF).2.2.2.1,(formedB_parts hF).2.2.2.2.1⟩
  have hwn:IntKind.i64.wrap (frm+nn)=frm+nn:=wrapI (by omega)
  have hzc:inR pi 0 1099511627776=true:=inR_t (by omega) (by omega)
  refine oS fun _ hK1=>?_;refine oW T_mHb130_ok ?_;simp only[go_sem];refine hK1 _ ?_;refine oS fun _ hK2=>?_;refine oW T_mHb130_ok ?_;simp (maxSteps:=2000000)only[List.nodup_nil,go_sem];repeat (with_reducible refine oA ?_)
  refine hK2 _ ?_;refine oS fun _ hK3=>?_;refine oW T_mHb130_ok ?_;simp (maxSteps:=2000000)only[go_sem];repeat (with_reducible first | refine oA ?_ | refine And.intro (by first | exact hzc) ?_)
  refine hK3 _ ?_;refine oS fun _ hK4=>?_;refine oS fun _ hK5=>?_;refine oW T_mHb130_ok ?_;simp only[go_sem];refine hK5 _ ?_;refine AWP_block ?_;refine AWP_loop_k (ι:={ k:Nat // k≤nn.toNat }) (fun k=>⟨[.c (.po 30 0),.c (.rd [] 26 (.row 2 (.int .i64)) (ins)),.c (.sc (.int .i64 (frm))),.c (.sc (.int .i64 (nn))),zz,zz,zz,zz,zz,.c (.ow 9001),.c (.ow 9002),.c (.sc (.int .i64 (frm+(k.1:Int)))),zz,zz,zz,zz,zz,zz,zz,zz,zz,zz,zz,zz,zz,zz,zz,zz,zz,zz,zz,zz,zz,zz,zz,zz,zz,zz,zz,zz,zz,zz,zz,zz,zz,zz,zz,zz,zz,zz,zz,zz,zz,zz,zz,zz,zz,zz,zz,zz,zz,zz,zz,zz,zz,zz,zz,zz,zz,zz,zz,zz,zz,zz],[(30,.box [.sc (.int .i64 (pi)),.rd [] 26 ((.row 2 (.int .i64))) (ts),.rd [] 93 ((.prod (.int .i64) (.prod (.int .i64) (.prod (.int .i64) (.row 2 (.int .i64)))))) (ns),.rd [] 2 (.int .i64) (os),.ow 31,.ow 32,.ow 33]),(31,.row 2 (.int .i64) (ordL ns) []),(32,.row 2 (.int .i64) ((lastV (pi,ts,ns,os) ins frm vv (cc,List.replicate os.length []) k.1)) []),(33,.tree 26 (.row 2 (.int .i64)) ((blockSt (pi,ts,ns,os) ins frm k.1 (cc,List.replicate os.length [])).1) none),(9001,.tree 26 (.row 2 (.int .i64)) ((blockSt (pi,ts,ns,os) ins frm k.1 (cc,List.replicate os.length [])).2) none),(9002,.row 2 (.int .i64) ((lastF (pi,ts,ns,os) ins frm k.1)) [])]⟩) (fun k=>nn.toNat - k.1) ⟨0,by simp⟩ ?_ ?_
  ·
   refine oK ?_;simp (maxSteps:=2000000)only[go_sem];all_goals ((repeat' refine And.intro ?_ ?_)<;>first | rfl | omega | (congr 1; done) | simp)
  rintro ⟨k,hk⟩ K6 hL6
  obtain ⟨hks,hko⟩:=block_ok (p:=(pi,ts,ns,os)) (ins:=ins) (frm:=frm) (s:=cc) (o:=List.replicate os.length []) hF hcc hin (by simp) k
  obtain ⟨hfl,hff⟩:=frameAt_ok (p:=(pi,ts,ns,os)) hin (frm+(k:Int))
  have hlv:=lastV_ok (p:=(pi,ts,ns,os)) (ins:=ins) (frm:=frm) (vals:=vv) (s:=cc) (o:=List.replicate os.length []) hF hcc hin (by simp) hvv k
  have hlf:=lastF_len (p:=(pi,ts,ns,os)) (ins:=ins) (frm:=frm) hin k
  have hfal:(frameAt ins (frm+(k:Int))).length=ins.length:=by simp [frameAt]
  have hko:(blockSt (pi,ts,ns,os) ins frm k (cc,List.replicate os.length [])).2.length=os.length:=hko
  have hil:(ins.length:Int)=pi:=hin.1
  refine oS fun _ hK7=>?_;refine oS fun _ hK8=>?_;refine oW T_mHb130_ok ?_;simp (maxSteps:=2000000)only[hwn,go_sem];refine hK8 _ ?_;refine oC rfl ?_ ?_
  ·
   intro c0;refine AWP_skip ?_;simp only[go_sem];refine hK7 _ ?_;refine oS fun _ hK9=>?_;refine AWP_block ?_;refine oS fun _ hK10=>?_;refine oS fun _ hK11=>?_;refine oW T_mHb130_ok ?_;simp only[go_sem];refine hK11 _ ?_;refine AWP_block ?_;refine AWP_loop_k (ι:={ m:Nat // m≤ins.length }) (fun k'=>⟨[.c (.po 30 0),.c (.rd [] 26 (.row 2 (.int .i64)) (ins)),.c (.sc (.int .i64 (frm))),.c (.sc (.int .i64 (nn))),zz,zz,zz,zz,zz,.c (.ow 9001),.c (.ow 9002),.c (.sc (.int .i64 (frm+(k:Int)))),zz,zz,zz,zz,zz,zz,zz,zz,zz,zz,zz,zz,zz,zz,zz,zz,zz,zz,zz,zz,zz,zz,zz,zz,zz,.c (.sc (.int .i64 (ins.length))),.c (.sc (.int .i64 (k'.1))),zz,zz,zz,zz,zz,zz,zz,zz,zz,zz,zz,zz,zz,zz,zz,zz,zz,zz,zz,zz,zz,zz,zz,zz,zz,zz,zz,zz,zz,zz,zz,zz,zz,zz,zz],[(30,.box [.sc (.int .i64 (pi)),.rd [] 26 ((.row 2 (.int .i64))) (ts),.rd [] 93 ((.prod (.int .i64) (.prod (.int .i64) (.prod (.int .i64) (.row 2 (.int .i64)))))) (ns),.rd [] 2 (.int .i64) (os),.ow 31,.ow 32,.ow 33]),(31,.row 2 (.int .i64) (ordL ns) []),(32,.row 2 (.int .i64) ((lastV (pi,ts,ns,os) ins frm vv (cc,List.replicate os.length []) k)) []),(33,.tree 26 (.row 2 (.int .i64)) ((blockSt (pi,ts,ns,os) ins frm k (cc,List.replicate os.length [])).1) none),(9001,.tree 26 (.row 2 (.int .i64)) ((blockSt (pi,ts,ns,os) ins frm k (cc,List.replicate os.length [])).2) none),(9002,.row 2 (.int .i64) (blend (frameAt ins (frm+(k:Int))) (lastF (pi,ts,ns,os) ins frm k) k'.1) [])]⟩) (fun k'=>ins.length - k'.1) ⟨0,by simp⟩ ?_ ?_
   ·
    refine oK ?_;simp (maxSteps:=2000000)only[go_sem];all_goals ((repeat' refine And.intro ?_ ?_)<;>first | rfl | omega | exact blend_zero.symm | exact congrArg _ hlf | (rw [hlf]) | (congr 1; done))
   rintro ⟨m,hm⟩ K12 hL12
   have hbl0:(blend (frameAt ins (frm+(k:Int))) (lastF (pi,ts,ns,os) ins frm k) m).length=ins.length:=by rw [blend_len (by omega) (by omega)]; exact hfal
   have hset:m < ins.length→(blend (frameAt ins (frm+(k:Int))) (lastF (pi,ts,ns,os) ins frm k) m).set m ((ins.getD m []).getD (Int.toNat (frm+(k:Int))) 0)=blend (frameAt ins (frm+(k:Int))) (lastF (pi,ts,ns,os) ins frm k) (m+1):=fun h=>by rw [← frameAt_at h]; exact blend_set 0 (by omega) (by omega)
   refine oS fun _ hK13=>?_;refine oW T_mHb130_ok ?_;simp only[go_sem];refine hK13 _ ?_;refine oS fun _ hK14=>?_;refine oC rfl ?_ ?_
   ·
    intro c1;refine AWP_skip ?_;simp only[go_sem];refine hK14 _ ?_;refine oS fun _ hK15=>?_;refine AWP_block ?_;refine oS fun _ hK16=>?_;refine oW T_mHb130_ok ?_;simp only[go_sem];refine hK16 _ ?_;refine oW T_mHb130_ok ?_;simp (maxSteps:=2000000)only[go_sem];repeat (with_reducible first | refine oA ?_ | refine And.intro (by first | exact inR_t (by omega) (by omega)) ?_)
    refine hK15 _ ?_;refine oW T_mHb130_ok ?_;simp only[go_sem];refine hL12 ⟨m+1,by omega⟩ _ (oK ?_) ?_
    ·
     simp (maxSteps:=2000000)only[go_sem];all_goals ((repeat' refine And.intro ?_ ?_)<;>first | rfl | exact wk (by omega) | exact hset (by omega) | (congr 1; done))
    ·
     first | (simp only[]; omega) | omega | (simp; omega)
   intro c1;have hbl:blend (frameAt ins (frm+(k:Int))) (lastF (pi,ts,ns,os) ins frm k) m=(frameAt ins (frm+(k:Int))):=blend_all (by omega) (by omega)
   have hpl:playL (pi,ts,ns,os) (lastV (pi,ts,ns,os) ins frm vv (cc,List.replicate os.length []) k) (blockSt (pi,ts,ns,os) ins frm k (cc,List.replicate os.length [])).1 (frameAt ins (frm+(k:Int)))=((valsL (pi,ts,ns,os) (blockSt (pi,ts,ns,os) ins frm k (cc,List.replicate os.length [])).1 (frameAt ins (frm+(k:Int)))),(nextL (pi,ts,ns,os) (blockSt (pi,ts,ns,os) ins frm k (cc,List.replicate os.length [])).1 (frameAt ins (frm+(k:Int))) (valsL (pi,ts,ns,os) (blockSt (pi,ts,ns,os) ins frm k (cc,List.replicate os.length [])).1 (frameAt ins (frm+(k:Int)))))):=play_eq (p:=(pi,ts,ns,os)) hP hlv.1 hks.1
   have hoc:os.length≤1000∧idxs (valsL (pi,ts,ns,os) (blockSt (pi,ts,ns,os) ins frm k (cc,List.replicate os.length [])).1 (frameAt ins (frm+(k:Int)))).length os=true:=⟨by omega,by rw [(valsL_ok' (p:=(pi,ts,ns,os)) hF hks hff).1]; exact (formedB_parts hF).2.2.2.2.2.1⟩
   refine AWP_exit ?_;simp only[go_sem];refine hK10 _ ?_;refine oS fun _ hK17=>?_;refine oW T_mHb130_ok ?_;simp only[hbl,hpl,go_sem];repeat (with_reducible first | refine oA ?_ | refine And.intro (by first | exact ⟨hP,rfl,hlv,hks,hfl,hff⟩ | exact ⟨hP,hlv,hks,hfl,hff⟩) ?_)
   refine hK17 _ ?_;refine oS fun _ hK18=>?_;refine oW T_mHb130_ok ?_;simp only[go_sem];repeat (with_reducible first | refine oA ?_ | refine And.intro (by first | exact hoc) ?_)
   refine hK18 _ ?_;refine AWP_block ?_;refine AWP_loop_k (ι:={ m:Nat // m≤os.length }) (fun k'=>⟨[.c (.po 30 0),.c (.rd [] 26 (.row 2 (.int .i64)) (ins)),.c (.sc (.int .i64 (frm))),.c (.sc (.int .i64 (nn))),zz,zz,zz,zz,zz,.c (.ow 9001),.c (.ow 9002),.c (.sc (.int .i64 (frm+(k:Int)))),zz,zz,zz,zz,zz,zz,zz,zz,zz,zz,zz,zz,zz,zz,zz,zz,zz,zz,zz,zz,zz,zz,zz,zz,zz,zz,zz,zz,zz,zz,zz,zz,zz,zz,zz,zz,zz,zz,zz,zz,zz,zz,zz,.c (.ow 9003),.c (.sc (.int .i64 (os.length))),.c (.sc (.int .i64 (k'.1))),zz,zz,zz,zz,zz,zz,zz,zz,zz,zz,zz,zz,zz,zz,zz,zz],[(30,.box [.sc (.int .i64 (pi)),.rd [] 26 ((.row 2 (.int .i64))) (ts),.rd [] 93 ((.prod (.int .i64) (.prod (.int .i64) (.prod (.int .i64) (.row 2 (.int .i64)))))) (ns),.rd [] 2 (.int .i64) (os),.ow 31,.ow 32,.ow 33]),(31,.row 2 (.int .i64) (ordL ns) []),(32,.row 2 (.int .i64) ((valsL (pi,ts,ns,os) (blockSt (pi,ts,ns,os) ins frm k (cc,List.replicate os.length [])).1 (frameAt ins (frm+(k:Int))))) []),(33,.tree 26 (.row 2 (.int .i64)) ((nextL (pi,ts,ns,os) (blockSt (pi,ts,ns,os) ins frm k (cc,List.replicate os.length [])).1 (frameAt ins (frm+(k:Int))) (valsL (pi,ts,ns,os) (blockSt (pi,ts,ns,os) ins frm k (cc,List.replicate os.length [])).1 (frameAt ins (frm+(k:Int)))))) none),(9001,.tree 26 (.row 2 (.int .i64)) (blend (addOut (blockSt (pi,ts,ns,os) ins frm k (cc,List.replicate os.length [])).2 (outsL (pi,ts,ns,os) (valsL (pi,ts,ns,os) (blockSt (pi,ts,ns,os) ins frm k (cc,List.replicate os.length [])).1 (frameAt ins (frm+(k:Int)))))) (blockSt (pi,ts,ns,os) ins frm k (cc,List.replicate os.length [])).2 k'.1) none),(9002,.row 2 (.int .i64) ((frameAt ins (frm+(k:Int)))) []),(9003,.row 2 (.int .i64) ((outsL (pi,ts,ns,os) (valsL (pi,ts,ns,os) (blockSt (pi,ts,ns,os) ins frm k (cc,List.replicate os.length [])).1 (frameAt ins (frm+(k:Int)))))) [])]⟩) (fun k'=>os.length - k'.1) ⟨0,by simp⟩ ?_ ?_
   ·
    refine oK ?_;simp (maxSteps:=2000000)only[go_sem];all_goals ((repeat' refine And.intro ?_ ?_)<;>first | rfl | omega | (congr 1; exact blend_zero.symm) | exact congrArg _ (outsL_len (pi,ts,ns,os) _) | (congr 1; done))
   rintro ⟨m,hm⟩ K19 hL19
   have hxl:(outsL (pi,ts,ns,os) (valsL (pi,ts,ns,os) (blockSt (pi,ts,ns,os) ins frm k (cc,List.replicate os.length [])).1 (frameAt ins (frm+(k:Int))))).length=os.length:=outsL_len (pi,ts,ns,os) _
   have hal:(addOut (blockSt (pi,ts,ns,os) ins frm k (cc,List.replicate os.length [])).2 (outsL (pi,ts,ns,os) (valsL (pi,ts,ns,os) (blockSt (pi,ts,ns,os) ins frm k (cc,List.replicate os.length [])).1 (frameAt ins (frm+(k:Int)))))).length=(blockSt (pi,ts,ns,os) ins frm k (cc,List.replicate os.length [])).2.length:=by rw [addOut_len (by omega)]; omega
   have hbl1:(blend (addOut (blockSt (pi,ts,ns,os) ins frm k (cc,List.replicate os.length [])).2 (outsL (pi,ts,ns,os) (valsL (pi,ts,ns,os) (blockSt (pi,ts,ns,os) ins frm k (cc,List.replicate os.length [])).1 (frameAt ins (frm+(k:Int)))))) (blockSt (pi,ts,ns,os) ins frm k (cc,List.replicate os.length [])).2 m).length=os.length:=by rw [blend_len (by omega) (by omega)]; omega
   have hbat0:m < os.length→(blend (addOut (blockSt (pi,ts,ns,os) ins frm k (cc,List.replicate os.length [])).2 (outsL (pi,ts,ns,os) (valsL (pi,ts,ns,os) (blockSt (pi,ts,ns,os) ins frm k (cc,List.replicate os.length [])).1 (frameAt ins (frm+(k:Int)))))) (blockSt (pi,ts,ns,os) ins frm k (cc,List.replicate os.length [])).2 m).getD m []=(blockSt (pi,ts,ns,os) ins frm k (cc,List.replicate os.length [])).2.getD m []:=fun h=>blend_at [] (by omega) (by omega)
   have holn:m < os.length→((blockSt (pi,ts,ns,os) ins frm k (cc,List.replicate os.length [])).2.getD m []).length=k:=fun h=>by have:=block_len (p:=(pi,ts,ns,os)) (ins:=ins) (frm:=frm) (s:=cc) (o:=List.replicate os.length []) (m:=0) hF hcc hin (by simp) (by intro i hi; simp [List.getD] at hi ⊢; simp [hi]) k m h; omega
   have hset:m < os.length→(blend (addOut (blockSt (pi,ts,ns,os) ins frm k (cc,List.replicate os.length [])).2 (outsL (pi,ts,ns,os) (valsL (pi,ts,ns,os) (blockSt (pi,ts,ns,os) ins frm k (cc,List.replicate os.length [])).1 (frameAt ins (frm+(k:Int)))))) (blockSt (pi,ts,ns,os) ins frm k (cc,List.replicate os.length [])).2 m).set m ((blockSt (pi,ts,ns,os) ins frm k (cc,List.replicate os.length [])).2.getD m []++[(outsL (pi,ts,ns,os) (valsL (pi,ts,ns,os) (blockSt (pi,ts,ns,os) ins frm k (cc,List.replicate os.length [])).1 (frameAt ins (frm+(k:Int))))).getD m 0])=blend (addOut (blockSt (pi,ts,ns,os) ins frm k (cc,List.replicate os.length [])).2 (outsL (pi,ts,ns,os) (valsL (pi,ts,ns,os) (blockSt (pi,ts,ns,os) ins frm k (cc,List.replicate os.length [])).1 (frameAt ins (frm+(k:Int)))))) (blockSt (pi,ts,ns,os) ins frm k (cc,List.replicate os.length [])).2 (m+1):=fun h=>by rw [← addOut_at (by omega) (by omega)]; exact blend_set [] (by omega) (by omega)
   refine oS fun _ hK20=>?_;refine oW T_mHb130_ok ?_;simp only[go_sem];refine hK20 _ ?_;refine oS fun _ hK21=>?_;refine oC rfl ?_ ?_
   ·
    intro c2;have hbat:=hbat0 (by omega)
    have holn:=holn (by omega)
    refine AWP_skip ?_;simp only[go_sem];refine hK21 _ ?_;refine oS fun _ hK22=>?_;refine AWP_block ?_;refine oS fun _ hK23=>?_;refine oW T_mHb130_ok ?_;simp (maxSteps:=2000000)only[go_sem];repeat (with_reducible refine oA ?_)
    refine hK23 _ ?_;refine oW T_mHb130_ok ?_;simp (maxSteps:=2000000)only[List.nodup_cons,List.nodup_nil,List.not_mem_nil,not_false_eq_true,hbat,go_sem];repeat (with_reducible first | refine oA ?_ | refine And.intro (by first | omega) ?_)
    refine hK22 _ ?_;refine oW T_mHb130_ok ?_;simp only[go_sem];refine hL19 ⟨m+1,by omega⟩ _ (oK ?_) ?_
    ·
     simp (maxSteps:=2000000)only[go_sem];all_goals ((repeat' refine And.intro ?_ ?_)<;>first | rfl | exact wk (by omega) | (congr 1; exact hset (by omega)) | (congr 1; done))
    ·
     first | (simp only[]; omega) | omega | (simp; omega)
   intro c2;refine AWP_exit ?_;simp only[go_sem];refine hK9 _ ?_;refine oW T_mHb130_ok ?_;simp only[go_sem];refine hL6 ⟨k+1,by omega⟩ _ (oK ?_) ?_
   ·
    simp (maxSteps:=2000000)only[go_sem];all_goals ((repeat' refine And.intro ?_ ?_)<;>first | rfl | (rw [wrapI (by omega)]; omega) | (congr 1; exact blend_all (by simpa [addOut] using hal) (by omega)) | (congr 1; done))
   ·
    first | (simp only[]; omega) | omega | (simp; omega)
  intro c0;refine AWP_exit ?_;simp only[go_sem];refine hK4 _ ?_;refine oS fun _ hK24=>?_;refine oW T_mHb130_ok ?_;simp only[go_sem];refine hK24 _ ?_;refine AWP_ret ?_;simp only[hres,go_sem]
  first
   | exact oG
   | refine ⟨oG,?_⟩
     have hk3:k=nn.toNat:=by omega
     clear hK1 hK2 hK3 hK4 hK5 hL6 hK7 hK8 hK24;subst hk3
     (repeat' refine And.intro ?_ ?_)<;>first | rfl | (congr 1; done)
def T_plBlock:Tab:=fun f=>if f=81 then some (.g K_plBlock) else T_mHb130 f
theorem T_plBlock_ok:TabOk Tryz.prog T_plBlock:=tabG plBlock_ok (fnOk_of Tryz.func81 rfl (by decide)) T_mHb130_ok
attribute [go_sem] T_plBlock K_plBlock
end Go.Proofs.YtgmabhkmiokiaaaGreat
