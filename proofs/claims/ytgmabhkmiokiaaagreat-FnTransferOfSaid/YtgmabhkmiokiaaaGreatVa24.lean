/-
  Texts of this claim, joined (part 24). No condition beyond those of the theorems.
-/
import Derived.Test.YtgmabhkmiokiaaaGreatVa22
import Derived.Test.YtgmabhkmiokiaaaGreatVa23
import Derived.Test.YtgmabhkmiokiaaaGreatVa21
import Derived.Test.YtgmabhkmiokiaaaGreatVa19
namespace Go.Proofs.YtgmabhkmiokiaaaGreat
open Go.RowKit
set_option linter.unusedSimpArgs false
set_option linter.unusedVariables false
set_option maxRecDepth 100000
set_option maxHeartbeats 8000000
def T_mHm30:Tab:=fun f=>match T_nMarks f with
 | some k=>some k
 | none=>T_start f
theorem T_mHm30_ok:TabOk Tryz.prog T_mHm30:=tabM T_nMarks_ok T_start_ok
attribute [go_sem] T_mHm30 T0
def T_mHm31:Tab:=fun f=>match T_mHm30 f with
 | some k=>some k
 | none=>T_clones f
theorem T_mHm31_ok:TabOk Tryz.prog T_mHm31:=tabM T_mHm30_ok T_clones_ok
attribute [go_sem] T_mHm31 T0
def K_linKind:Con:=⟨[.val (.int .i64)],[⟨.bool,true⟩],fun x=>inR x.1 1 17=true,fun x=>linKB x.1⟩
theorem linKind_ok:PureT Tryz.prog 68 K_linKind:=by
  refine pure_of_body Tryz.func68 rfl ?_
  have hres:Tryz.f68.results.toList=[.tmp 2]:=rfl
  rintro ⟨(x:Int),_⟩ hc hL
  simp only[K_linKind,go_sem] at hL
  simp only[K_linKind,St.init,St.initG,Tryz.ntmps68,go_sem] 
  have hx:inR x 1 17=true:=hc
  obtain ⟨hx1,hx2⟩:=inR_iff.1 hx
  have hk:=kindsL_at hx
  have hk1:=hk.1
  have hkl:kindsL.length=17:=rfl
  have hw:IntKind.i64.wrap (x - 1)=x - 1:=wrapI (by omega)
  refine oS fun _ hK1=>?_;refine oW T_mHm31_ok ?_;simp only[go_sem];refine hK1 _ ?_;refine oS fun _ hK2=>?_;refine oW T_mHm31_ok ?_;simp (maxSteps:=2000000)only[hx,hw,hk1,go_sem];repeat' (with_reducible first | refine oA ?_ | refine oT (fun g1=>?_) (fun g1=>?_) | refine oE (fun g1=>?_) (fun g1=>?_))
  all_goals
   refine hK2 _ ?_;refine AWP_ret ?_;simp only[hres,go_sem];first | exact oF | (refine ⟨?_,oF⟩; exact linK_kT hx)
def T_linKind:Tab:=fun f=>if f=68 then some (.p K_linKind) else T_mHm31 f
theorem T_linKind_ok:TabOk Tryz.prog T_linKind:=tabP linKind_ok (fnOk_of Tryz.func68 rfl (by decide)) T_mHm31_ok
attribute [go_sem] T_linKind K_linKind
def K_needed:Con:=⟨[.val ((.prod (.int .i64) (.prod (.row 26 (.row 2 (.int .i64))) (.prod (.row 93 (.prod (.int .i64) (.prod (.int .i64) (.prod (.int .i64) (.row 2 (.int .i64)))))) (.row 2 (.int .i64))))))],[⟨(.row 2 (.int .i64)),true⟩],fun x=>formedB x.1=true,fun x=>needF x.1⟩
theorem needed_ok:PureT Tryz.prog 67 K_needed:=by
  refine pure_of_body Tryz.func67 rfl ?_
  have hres:Tryz.f67.results.toList=[.tmp 2]:=rfl
  rintro ⟨⟨(pi:Int),(ts:List (List Int)),(ns:List NodeD),(os:List Int)⟩,_⟩ hc hL
  simp only[K_needed,go_sem] at hL
  simp only[K_needed,St.init,St.initG,Tryz.ntmps67,go_sem] 
  have hF:formedB (pi,ts,ns,os)=true:=hc
  have hn24:ns.length≤24:=(formedB_parts hF).1
  have hml:(marksF (pi,ts,ns,os)).length=ns.length:=marks_len hF
  refine oS fun _ hK1=>?_;refine oW T_linKind_ok ?_;simp only[go_sem];refine hK1 _ ?_;refine oS fun _ hK2=>?_;refine oW T_linKind_ok ?_;simp only[List.nodup_nil,go_sem];repeat (with_reducible refine oA ?_)
  refine hK2 _ ?_;refine oS fun _ hK3=>?_;refine oS fun _ hK4=>?_;refine oW T_linKind_ok ?_;simp only[go_sem];repeat (with_reducible first | refine oA ?_ | refine And.intro (by first | exact hF) ?_)
  refine hK4 _ ?_;refine AWP_block ?_;refine AWP_loop_k (ι:={ k:Nat // k≤(marksF (pi,ts,ns,os)).length }) (fun k=>⟨[zz,zz,zz,.c (.ow 9003),zz,zz,zz,zz,.c (.rd [] 4 (.bool) ((marksF (pi,ts,ns,os)))),.c (.sc (.int .i64 ((marksF (pi,ts,ns,os)).length))),.c (.sc (.int .i64 (k.1))),zz,zz,zz,zz,zz,zz,zz,zz,zz,zz,zz],[(9003,.row 2 (.int .i64) (needT (marksF (pi,ts,ns,os)) k.1) [])]⟩) (fun k=>(marksF (pi,ts,ns,os)).length - k.1) ⟨0,by simp⟩ ?_ ?_
  ·
   refine oK ?_;simp (maxSteps:=2000000)only[go_sem];all_goals (first | rfl | ((repeat' refine And.intro ?_ ?_)<;>first | rfl | simp))
  rintro ⟨k,hk⟩ K5 hL5
  have hnl:=needT_len (marksF (pi,ts,ns,os)) k
  refine oS fun _ hK6=>?_;refine oW T_linKind_ok ?_;simp only[go_sem];refine hK6 _ ?_;refine oS fun _ hK7=>?_;refine oC rfl ?_ ?_
  ·
   intro c0;refine AWP_skip ?_;simp only[go_sem];refine hK7 _ ?_;refine oS fun _ hK8=>?_;refine AWP_block ?_;refine oS fun _ hK9=>?_;refine oW T_linKind_ok ?_;simp (maxSteps:=2000000)only[go_sem];repeat (with_reducible refine oA ?_)
   refine hK9 _ ?_;refine oS fun _ hK10=>?_;refine oW T_linKind_ok ?_;simp only[go_sem];refine hK10 _ ?_;refine oC rfl ?_ ?_
   ·
    intro c1;have hnx:=needT_t (M:=(marksF (pi,ts,ns,os))) (k:=k) (by first | assumption | (clear hK1 hK2 hK3 hK4 hL5 hK6 hK7 hK8 hK9 hK10; simp_all))
    refine oW T_linKind_ok ?_;simp (maxSteps:=2000000)only[go_sem];repeat (with_reducible refine oA ?_)
    refine hK8 _ ?_;refine oW T_linKind_ok ?_;simp only[go_sem];refine hL5 ⟨k+1,by omega⟩ _ (oK ?_) ?_
    ·
     simp (maxSteps:=2000000)only[go_sem];all_goals ((repeat' refine And.intro ?_ ?_)<;>first | rfl | exact wk (by omega) | exact hnx.symm | (congr 1; exact hnx.symm) | (congr 1; done))
    ·
     first | (simp only[]; omega) | omega | (simp; omega)
   intro c1;have hnx:=needT_f (M:=(marksF (pi,ts,ns,os))) (k:=k) (by first | assumption | (clear hK1 hK2 hK3 hK4 hL5 hK6 hK7 hK8 hK9 hK10; simp_all))
   refine AWP_skip ?_;simp only[go_sem];refine hK8 _ ?_;refine oW T_linKind_ok ?_;simp only[go_sem];refine hL5 ⟨k+1,by omega⟩ _ (oK ?_) ?_
   ·
    simp (maxSteps:=2000000)only[go_sem];all_goals ((repeat' refine And.intro ?_ ?_)<;>first | rfl | exact wk (by omega) | exact hnx.symm | (congr 1; exact hnx.symm) | (congr 1; done))
   ·
    first | (simp only[]; omega) | omega | (simp; omega)
  intro c0;refine AWP_exit ?_;simp only[go_sem];refine hK3 _ ?_;refine oS fun _ hK11=>?_;refine oW T_linKind_ok ?_;simp only[go_sem];refine hK11 _ ?_;refine AWP_ret ?_;simp only[hres,go_sem]
  first
   | exact oF
   | refine ⟨?_,oF⟩
     have hke:k=ns.length:=by omega
     clear hK1 hK2 hK3 hK4 hL5 hK6 hK7 hK11;subst hke
     rfl
def T_needed:Tab:=fun f=>if f=67 then some (.p K_needed) else T_linKind f
theorem T_needed_ok:TabOk Tryz.prog T_needed:=tabP needed_ok (fnOk_of Tryz.func67 rfl (by decide)) T_linKind_ok
attribute [go_sem] T_needed K_needed
def K_trimmed:Con:=⟨[.val ((.prod (.int .i64) (.prod (.row 26 (.row 2 (.int .i64))) (.prod (.row 93 (.prod (.int .i64) (.prod (.int .i64) (.prod (.int .i64) (.row 2 (.int .i64)))))) (.row 2 (.int .i64))))))],[⟨(.prod (.int .i64) (.prod (.row 26 (.row 2 (.int .i64))) (.prod (.row 93 (.prod (.int .i64) (.prod (.int .i64) (.prod (.int .i64) (.row 2 (.int .i64)))))) (.row 2 (.int .i64))))),true⟩],fun x=>patchB x.1=true,fun x=>trimP x.1⟩
theorem trimmed_ok:PureT Tryz.prog 71 K_trimmed:=by
  refine pure_of_body Tryz.func71 rfl ?_
  have hres:Tryz.f71.results.toList=[.cell 2 28]:=rfl
  rintro ⟨⟨(pi:Int),(ts:List (List Int)),(ns:List NodeD),(os:List Int)⟩,_⟩ hc hL
  simp only[K_trimmed,go_sem] at hL
  simp only[K_trimmed,St.init,St.initG,Tryz.ntmps71,go_sem] 
  have hP:patchB (pi,ts,ns,os)=true:=hc
  have hF:=(patchB_parts hP).1
  have hK0:=trim_keep hP
  obtain ⟨kp,hkp⟩ :∃kp,needF (pi,ts,ns,os)=kp:=⟨_,rfl⟩
  rw [hkp] at hK0;have hK:KeepOk (pi,ts,ns,os) kp:=hK0
  have hfp:fitsP (pi,ts,ns,os):=hK.fits
  have hfl:fitsL ts:=hfp.1
  have hn24:ns.length≤24:=hK.n24
  have hk24:kp.length≤24:=hK.k24
  have hrg:idxs ns.length kp=true:=hK.rng
  have ho4:os.length≤4:=hK.o4
  have hoi:idxs ns.length os=true:=hK.outs
  have hfr :∀x∈ns,x.2.2.2.length≤23∧idxs ns.length x.2.2.2=true:=hK.frs
  have hby:(byL ns.length kp kp.length).length=ns.length:=byL_len _ _ _
  have hmo:os.length≤1000∧idxs (byL ns.length kp kp.length).length os=true:=⟨by omega,by rw [hby]; exact hoi⟩
  have hnr:inR (ns.length:Int) 0 1099511627776=true:=inR_t (by omega) (by omega)
  refine oS fun _ hK1=>?_;refine oW T_needed_ok ?_;simp only[go_sem];refine hK1 _ ?_;refine oS fun _ hK2=>?_
  refine oR T_needed_ok
    [[],[0],[],[2],[0,1,2,3],[0,1,2,3,4],[0,1,2,3,4,5],[0,1,2,3,4,5,6]]
    [[],[],[292,293,294,295,296,297,298,299,300,301,302,303,304,305,306,307],[292,293,294,295,296,297,298,299,300,301,302,303,304,305,306,307],[],[],[],[]]
    [[],[292,293,294,295,296,297,298,299,300,301,302,303,304,305,306,307],[],[],[],[],[],[]] (by kernel_rfl) (by kernel_rfl) (adrawR_ok (acc:=[]) ?_)
  simp (maxSteps:=2000000)only[hkp,go_sem];repeat (with_reducible first | refine oD ?_ | refine And.intro (by first | exact hF | exact hnr) ?_)
  refine hK2 _ ?_;refine oS fun _ hK3=>?_;refine oS fun _ hK4=>?_;refine oW T_needed_ok ?_;simp only[go_sem];refine hK4 _ ?_;refine AWP_block ?_;refine AWP_loop_k (ι:={ k:Nat // k≤kp.length }) (fun k=>⟨[zz,.c (.po 116 0),.c (.po 132 0),.c (.ow 9003),.c (.ow 9004),zz,zz,zz,zz,zz,zz,zz,zz,zz,zz,zz,zz,.c (.ow 9003),.c (.sc (.int .i64 (kp.length))),.c (.sc (.int .i64 (k.1))),zz,zz,zz,zz,zz,zz,zz,zz,zz,zz,zz,zz,zz,zz,zz,zz,zz,zz,zz,zz,zz,zz,zz,zz,zz,zz,zz,zz,zz,zz,zz,zz,zz,zz,zz,zz,zz,zz,zz,zz,zz,zz,zz],[(116,.box [.sc (.int .i64 (pi)),.rd [] 26 ((.row 2 (.int .i64))) (ts),.rd [] 93 ((.prod (.int .i64) (.prod (.int .i64) (.prod (.int .i64) (.row 2 (.int .i64)))))) (ns),.rd [] 2 (.int .i64) (os)]),(132,.box [.sc (.int .i64 (0)),.sc (.slice none 0 0),.sc (.slice none 0 0),.sc (.slice none 0 0)]),(9003,.row 2 (.int .i64) (kp) []),(9004,.row 2 (.int .i64) ((byL ns.length kp k.1)) [])]⟩) (fun k=>kp.length - k.1) ⟨0,by simp⟩ ?_ ?_
  ·
   refine oK ?_;simp (maxSteps:=2000000)only[go_sem];all_goals ((repeat' refine And.intro ?_ ?_)<;>first | rfl | (simp [byL]; done) | (congr 1; done))
  rintro ⟨k,hk⟩ K5 hL5
  have hbk:(byL ns.length kp k).length=ns.length:=byL_len _ _ _
  refine oS fun _ hK6=>?_;refine oW T_needed_ok ?_;simp only[go_sem];refine hK6 _ ?_;refine oS fun _ hK7=>?_;refine oC rfl ?_ ?_
  ·
   intro c0;obtain ⟨hi1,hi2⟩:=idxs_at hrg (getD_mem (d:=(0:Int)) (show k < kp.length by omega))
   refine AWP_skip ?_;simp only[go_sem];refine hK7 _ ?_;refine oS fun _ hK8=>?_;refine AWP_block ?_;refine oS fun _ hK9=>?_;refine oW T_needed_ok ?_;simp (maxSteps:=2000000)only[go_sem];repeat (with_reducible refine oA ?_)
   refine hK9 _ ?_;refine oW T_needed_ok ?_;simp (maxSteps:=2000000)only[List.length_replicate,hbk,go_sem];repeat (with_reducible refine oA ?_)
   refine hK8 _ ?_;refine oW T_needed_ok ?_;simp only[go_sem];refine hL5 ⟨k+1,by omega⟩ _ (oK ?_) ?_
   ·
    simp (maxSteps:=2000000)only[go_sem];all_goals ((repeat' refine And.intro ?_ ?_)<;>first | rfl | exact wk (by omega) | (congr 1; done))
   ·
    first | (simp only[]; omega) | omega | (simp; omega)
  intro c0;have hke:k=kp.length:=by omega
  have hmok:os.length≤1000∧idxs (byL ns.length kp k).length os=true:=by rw [hke]; exact hmo
  refine AWP_exit ?_;simp only[go_sem];refine hK3 _ ?_;refine oS fun _ hK10=>?_
  refine oR T_needed_ok
    [[],[0],[],[2],[2,3],[],[5],[],[2,3,4,5,6,7],[0,1,2,3,4,5,6,7,8],[],[0,1,2,3,4,5,6,7,8,9,10]]
    [[212,628,629,630,631,632,633,634,635,636,637,638,639,640,641,642,643,692,693,694,695,696,697,698,699,700,701,702,703,704,705,706,707],[212,628,629,630,631,632,633,634,635,636,637,638,639,640,641,642,643,692,693,694,695,696,697,698,699,700,701,702,703,704,705,706,707],[212],[212],[212],[212,628,629,630,631,632,633,634,635,636,637,638,639,640,641,642,643],[212,628,629,630,631,632,633,634,635,636,637,638,639,640,641,642,643],[212,628,629,630,631,632,633,634,635,636,637,638,639,640,641,642,643],[212],[212],[628,629,630,631,632,633,634,635,636,637,638,639,640,641,642,643,692,693,694,695,696,697,698,699,700,701,702,703,704,705,706,707],[]]
    [[],[],[],[],[628,629,630,631,632,633,634,635,636,637,638,639,640,641,642,643],[],[],[],[692,693,694,695,696,697,698,699,700,701,702,703,704,705,706,707],[],[212],[]] (by kernel_rfl) (by kernel_rfl) (adrawR_ok (acc:=[]) ?_)
  simp (maxSteps:=2000000)only[List.nodup_cons,List.nodup_nil,List.not_mem_nil,not_false_eq_true,go_sem];repeat (with_reducible first | refine oD ?_ | refine And.intro (by first | exact hfl | exact hmok) ?_)
  refine hK10 _ ?_;refine oS fun _ hK11=>?_;refine oS fun _ hK12=>?_;refine oW T_needed_ok ?_;simp only[go_sem];refine hK12 _ ?_;refine AWP_block ?_;refine AWP_wk (Wk_nilBox _ 212 2 9012 93 ((.prod (.int .i64) (.prod (.int .i64) (.prod (.int .i64) (.row 2 (.int .i64)))))) (by decide)) ?_;simp (maxSteps:=2000000)only[go_sem];refine AWP_loop_k (ι:={ k:Nat // k≤kp.length }) (fun k=>⟨[zz,.c (.po 116 0),.c (.po 132 0),zz,.c (.ow 9004),zz,zz,.c (.po 212 0),zz,zz,zz,zz,zz,zz,zz,zz,zz,zz,zz,zz,zz,zz,zz,zz,zz,zz,zz,zz,zz,zz,zz,zz,zz,zz,zz,zz,zz,zz,zz,.c (.ow 9003),.c (.sc (.int .i64 (kp.length))),.c (.sc (.int .i64 (k.1))),zz,zz,zz,zz,zz,zz,zz,zz,zz,zz,zz,zz,zz,zz,zz,zz,zz,zz,zz,zz,zz],[(116,.box [.sc (.int .i64 (pi)),.rd [] 26 ((.row 2 (.int .i64))) (ts),.rd [] 93 ((.prod (.int .i64) (.prod (.int .i64) (.prod (.int .i64) (.row 2 (.int .i64)))))) (ns),.rd [] 2 (.int .i64) (os)]),(132,.box [.sc (.int .i64 (0)),.sc (.slice none 0 0),.sc (.slice none 0 0),.sc (.slice none 0 0)]),(9003,.row 2 (.int .i64) (kp) []),(9004,.row 2 (.int .i64) ((byL ns.length kp kp.length)) []),(212,.box [.sc (.int .i64 (pi)),.ow 9011,.ow 9012,.ow 9013]),(9011,.tree 26 (.row 2 (.int .i64)) (ts) none),(9012,.tree 93 (.prod (.int .i64) (.prod (.int .i64) (.prod (.int .i64) (.row 2 (.int .i64))))) ((kp.take k.1).map (keepN ns (byL ns.length kp kp.length))) none),(9013,.row 2 (.int .i64) (clsM (byL ns.length kp kp.length) os) [])]⟩) (fun k=>kp.length - k.1) ⟨0,by simp⟩ ?_ ?_
  ·
   refine oK ?_;simp (maxSteps:=2000000)only[go_sem];all_goals ((repeat' refine And.intro ?_ ?_)<;>first | rfl | (rw [hke]; done) | (rw [hke]; rfl) | (congr 1; done) | simp)
  rintro ⟨k,hk⟩ K13 hL13
  have hkl:((kp.take k).map (keepN ns (byL ns.length kp kp.length))).length≤24:=by rw [List.length_map,List.length_take]; omega
  refine oS fun _ hK14=>?_;refine oW T_needed_ok ?_;simp only[go_sem];refine hK14 _ ?_;refine oS fun _ hK15=>?_;refine oC rfl ?_ ?_
  ·
   intro c1;obtain ⟨hi1,hi2⟩:=idxs_at hrg (getD_mem (d:=(0:Int)) (show k < kp.length by omega))
   obtain ⟨hx1,hx2⟩:=hfr _ (getD_mem (d:=((0,0,0,[]):NodeD)) (show (kp.getD k 0).toNat < ns.length by omega))
   have hmc:(ns.getD (Int.toNat (kp.getD k 0)) ((0,0,0,[]):NodeD)).2.2.2.length≤1000∧idxs (byL ns.length kp kp.length).length (ns.getD (Int.toNat (kp.getD k 0)) ((0,0,0,[]):NodeD)).2.2.2=true:=⟨Nat.le_trans hx1 (by decide),by rw [hby]; exact hx2⟩
   have hnx:(kp.take k).map (keepN ns (byL ns.length kp kp.length))++[((ns.getD (Int.toNat (kp.getD k 0)) ((0,0,0,[]):NodeD)).1,(ns.getD (Int.toNat (kp.getD k 0)) ((0,0,0,[]):NodeD)).2.1,(ns.getD (Int.toNat (kp.getD k 0)) ((0,0,0,[]):NodeD)).2.2.1,List.map (fun q=>(byL ns.length kp kp.length).getD (Int.toNat q) 0) (ns.getD (Int.toNat (kp.getD k 0)) ((0,0,0,[]):NodeD)).2.2.2)]=(kp.take (k+1)).map (keepN ns (byL ns.length kp kp.length)):=map_nx (0:Int) (by omega)
   refine AWP_skip ?_;simp only[go_sem];refine hK15 _ ?_;refine oS fun _ hK16=>?_;refine AWP_block ?_;refine oS fun _ hK17=>?_;refine oW T_needed_ok ?_;simp only[go_sem];repeat (with_reducible refine oA ?_)
   refine hK17 _ ?_;refine oS fun _ hK18=>?_;refine oW T_needed_ok ?_;simp (maxSteps:=2000000)only[go_sem];repeat (with_reducible refine oA ?_)
   refine hK18 _ ?_;refine oS fun _ hK19=>?_;refine oW T_needed_ok ?_;simp (maxSteps:=2000000)only[go_sem];repeat (with_reducible first | refine oA ?_ | refine And.intro (by first | exact hmc) ?_)
   refine hK19 _ ?_;refine oW T_needed_ok ?_;simp (maxSteps:=2000000)only[List.nodup_cons,List.nodup_nil,List.not_mem_nil,not_false_eq_true,go_sem];repeat (with_reducible first | refine oA ?_ | refine And.intro (by first | omega) ?_)
   refine hK16 _ ?_;refine oW T_needed_ok ?_;simp only[go_sem];refine hL13 ⟨k+1,by omega⟩ _ (oK ?_) ?_
   ·
    simp (maxSteps:=2000000)only[go_sem];all_goals ((repeat' refine And.intro ?_ ?_)<;>first | rfl | exact wk (by omega) | exact hnx | (congr 1; exact hnx) | (congr 1; done))
   ·
    first | (simp only[]; omega) | omega | (simp; omega)
  intro c1;refine AWP_exit ?_;simp only[go_sem];refine hK11 _ ?_;refine oS fun _ hK20=>?_;refine oW T_needed_ok ?_;simp only[go_sem];repeat (with_reducible refine oA ?_)
  refine hK20 _ ?_;refine AWP_ret ?_;simp only[hres,go_sem]
  first
   | exact oF
   | refine ⟨?_,oF⟩
     have hk3:k=kp.length:=by omega
     clear hK1 hK2 hK3 hK4 hL5 hK6 hK7 hK10 hK11 hK12 hL13 hK14 hK15 hK20;subst hk3;unfold trimP;rw [hkp];unfold keepP;rw [List.take_of_length_le (Nat.le_refl _)]
     try rfl
def T_trimmed:Tab:=fun f=>if f=71 then some (.p K_trimmed) else T_needed f
theorem T_trimmed_ok:TabOk Tryz.prog T_trimmed:=tabP trimmed_ok (fnOk_of Tryz.func71 rfl (by decide)) T_needed_ok
attribute [go_sem] T_trimmed K_trimmed
def K_isLinP:Con:=⟨[.val ((.prod (.int .i64) (.prod (.row 26 (.row 2 (.int .i64))) (.prod (.row 93 (.prod (.int .i64) (.prod (.int .i64) (.prod (.int .i64) (.row 2 (.int .i64)))))) (.row 2 (.int .i64))))))],[⟨.bool,true⟩],fun x=>formedB x.1=true,fun x=>linB x.1⟩
theorem isLinP_ok:PureT Tryz.prog 32 K_isLinP:=by
  refine pure_of_body Tryz.func32 rfl ?_
  have hres:Tryz.f32.results.toList=[.tmp 2]:=rfl
  rintro ⟨⟨(pi:Int),(ts:List (List Int)),(ns:List NodeD),(os:List Int)⟩,_⟩ hc hL
  simp only[K_isLinP,go_sem] at hL
  simp only[K_isLinP,St.init,St.initG,Tryz.ntmps32,go_sem] 
  have hF:formedB (pi,ts,ns,os)=true:=hc
  have hn24:ns.length≤24:=(formedB_parts hF).1
  have hrg:=need_rng (p:=(pi,ts,ns,os))
  have hnl:(needF (pi,ts,ns,os)).length≤ns.length:=needT_len _ _
  obtain ⟨kp,hkp⟩ :∃kp,needF (pi,ts,ns,os)=kp:=⟨_,rfl⟩
  rw [hkp] at hrg hnl
  have hrg :∀j,j < kp.length→0≤kp.getD j 0∧kp.getD j 0 < (ns.length:Int):=hrg
  have hlB:linB (pi,ts,ns,os)=kp.all (fun i:Int=>linKB (ns.getD i.toNat ((0,0,0,[]):NodeD)).1):=by unfold linB; rw [hkp]; rfl
  refine oS fun _ hK1=>?_;refine oW T_trimmed_ok ?_;simp only[go_sem];refine hK1 _ ?_;refine oS fun _ hK2=>?_;refine oS fun _ hK3=>?_;refine oW T_trimmed_ok ?_;simp only[hkp,go_sem];repeat (with_reducible first | refine oA ?_ | refine And.intro (by first | exact hF) ?_)
  refine hK3 _ ?_;refine AWP_block ?_;refine AWP_loop_k (ι:={ k:Nat // k≤kp.length∧(kp.take k).all (fun i:Int=>linKB (ns.getD i.toNat ((0,0,0,[]):NodeD)).1)=true }) (fun k=>⟨[zz,.c (.po 116 0),zz,zz,zz,zz,.c (.ow 9003),.c (.sc (.int .i64 (kp.length))),.c (.sc (.int .i64 (k.1))),zz,zz,zz,zz,zz,zz,zz,zz,zz,zz,zz,zz],[(116,.box [.sc (.int .i64 (pi)),.rd [] 26 ((.row 2 (.int .i64))) (ts),.rd [] 93 ((.prod (.int .i64) (.prod (.int .i64) (.prod (.int .i64) (.row 2 (.int .i64)))))) (ns),.rd [] 2 (.int .i64) (os)]),(9003,.row 2 (.int .i64) (kp) [])]⟩) (fun k=>kp.length - k.1) ⟨0,by simp⟩ ?_ ?_
  ·
   refine oK ?_;simp (maxSteps:=2000000)only[go_sem];all_goals (first | rfl | ((repeat' refine And.intro ?_ ?_)<;>first | rfl | simp))
  rintro ⟨k,hk,hp⟩ K4 hL4
  refine oS fun _ hK5=>?_;refine oW T_trimmed_ok ?_;simp only[go_sem];refine hK5 _ ?_;refine oS fun _ hK6=>?_;refine oC rfl ?_ ?_
  ·
   intro c0;obtain ⟨hi1,hi2⟩:=hrg k (by omega)
   have hki:inR (ns.getD (Int.toNat (kp.getD k 0)) ((0,0,0,[]):NodeD)).1 1 17=true:=kind_in (p:=(pi,ts,ns,os)) hF (by show (kp.getD k 0).toNat < ns.length; omega)
   refine AWP_skip ?_;simp only[go_sem];refine hK6 _ ?_;refine oS fun _ hK7=>?_;refine AWP_block ?_;refine oS fun _ hK8=>?_;refine oW T_trimmed_ok ?_;simp only[go_sem];repeat (with_reducible refine oA ?_)
   refine hK8 _ ?_;refine oS fun _ hK9=>?_;refine oW T_trimmed_ok ?_;simp (maxSteps:=2000000)only[go_sem];repeat (with_reducible first | refine oA ?_ | refine And.intro (by first | exact hki) ?_)
   refine hK9 _ ?_;refine oC rfl ?_ ?_
   ·
    intro c1;refine oS fun _ hK10=>?_;refine oW T_trimmed_ok ?_;simp only[go_sem];refine hK10 _ ?_;refine AWP_ret ?_;simp only[hres,go_sem]
    first
     | exact oF
     | refine ⟨?_,oF⟩
       rw [hlB];exact (all_stop (k:=k) (d:=0) (by omega) (by first | assumption | (clear hp; clear hK1 hK2 hK3 hL4 hK5 hK6 hK7 hK8 hK9 hK10; simp_all))).symm
   intro c1;refine AWP_skip ?_;simp only[go_sem];refine hK7 _ ?_;refine oW T_trimmed_ok ?_;simp only[go_sem];refine hL4 ⟨k+1,by omega,all_next (d:=0) (by omega) hp (by first | assumption | (clear hK1 hK2 hK3 hL4 hK5 hK6 hK7 hK8 hK9; simp_all))⟩ _ (oK ?_) ?_
   ·
    simp (maxSteps:=2000000)only[go_sem];first | rfl | exact wk (by omega)
   ·
    first | (simp only[]; omega) | omega | (simp; omega)
  intro c0;refine AWP_exit ?_;simp only[go_sem];refine hK2 _ ?_;refine oS fun _ hK11=>?_;refine oW T_trimmed_ok ?_;simp only[go_sem];refine hK11 _ ?_;refine AWP_ret ?_;simp only[hres,go_sem]
  first
   | exact oF
   | refine ⟨?_,oF⟩
     rw [hlB];exact (all_done hp (by omega)).symm
def T_isLinP:Tab:=fun f=>if f=32 then some (.p K_isLinP) else T_trimmed f
theorem T_isLinP_ok:TabOk Tryz.prog T_isLinP:=tabP isLinP_ok (fnOk_of Tryz.func32 rfl (by decide)) T_trimmed_ok
attribute [go_sem] T_isLinP K_isLinP
def K_stCount:Con:=⟨[.val ((.prod (.int .i64) (.prod (.row 26 (.row 2 (.int .i64))) (.prod (.row 93 (.prod (.int .i64) (.prod (.int .i64) (.prod (.int .i64) (.row 2 (.int .i64)))))) (.row 2 (.int .i64))))))],[⟨.int .i64,true⟩],fun x=>formedB x.1=true,fun x=>(cntT x.1:Int)⟩
theorem stCount_ok:PureT Tryz.prog 33 K_stCount:=by
  refine pure_of_body Tryz.func33 rfl ?_
  have hres:Tryz.f33.results.toList=[.tmp 2]:=rfl
  rintro ⟨⟨(pi:Int),(ts:List (List Int)),(ns:List NodeD),(os:List Int)⟩,_⟩ hc hL
  simp only[K_stCount,go_sem] at hL
  simp only[K_stCount,St.init,St.initG,Tryz.ntmps33,go_sem] 
  have hF:formedB (pi,ts,ns,os)=true:=hc
  have hn24:ns.length≤24:=(formedB_parts hF).1
  have hrg:=need_rng (p:=(pi,ts,ns,os))
  have hnl:(needF (pi,ts,ns,os)).length≤ns.length:=needT_len _ _
  obtain ⟨kp,hkp⟩ :∃kp,needF (pi,ts,ns,os)=kp:=⟨_,rfl⟩
  rw [hkp] at hrg hnl
  have hrg :∀j,j < kp.length→0≤kp.getD j 0∧kp.getD j 0 < (ns.length:Int):=hrg
  have hcT:cntT (pi,ts,ns,os)=cntK ns kp kp.length:=by unfold cntT; rw [hkp]
  refine oS fun _ hK1=>?_;refine oW T_isLinP_ok ?_;simp only[go_sem];refine hK1 _ ?_;refine oS fun _ hK2=>?_;refine oW T_isLinP_ok ?_;simp only[go_sem];refine hK2 _ ?_;refine oS fun _ hK3=>?_;refine oS fun _ hK4=>?_;refine oW T_isLinP_ok ?_;simp only[hkp,go_sem];repeat (with_reducible first | refine oA ?_ | refine And.intro (by first | exact hF) ?_)
  refine hK4 _ ?_;refine AWP_block ?_;refine AWP_loop_k (ι:={ k:Nat // k≤kp.length }) (fun k=>⟨[zz,.c (.po 116 0),zz,.c (.sc (.int .i64 (cntK ns kp k.1))),zz,zz,zz,.c (.ow 9003),.c (.sc (.int .i64 (kp.length))),.c (.sc (.int .i64 (k.1))),zz,zz,zz,zz,zz,zz,zz,zz,zz,zz,zz,zz,zz,zz],[(116,.box [.sc (.int .i64 (pi)),.rd [] 26 ((.row 2 (.int .i64))) (ts),.rd [] 93 ((.prod (.int .i64) (.prod (.int .i64) (.prod (.int .i64) (.row 2 (.int .i64)))))) (ns),.rd [] 2 (.int .i64) (os)]),(9003,.row 2 (.int .i64) (kp) [])]⟩) (fun k=>kp.length - k.1) ⟨0,by simp⟩ ?_ ?_
  ·
   refine oK ?_;simp (maxSteps:=2000000)only[go_sem];all_goals (first | rfl | ((repeat' refine And.intro ?_ ?_)<;>first | rfl | simp))
  rintro ⟨k,hk⟩ K5 hL5
  refine oS fun _ hK6=>?_;refine oW T_isLinP_ok ?_;simp only[go_sem];refine hK6 _ ?_;refine oS fun _ hK7=>?_;refine oC rfl ?_ ?_
  ·
   intro c0;obtain ⟨hi1,hi2⟩:=hrg k (by omega)
   have hnc:nodeC ((ns.getD (Int.toNat (kp.getD k 0)) ((0,0,0,[]):NodeD)).1,(ns.getD (Int.toNat (kp.getD k 0)) ((0,0,0,[]):NodeD)).2.1,(ns.getD (Int.toNat (kp.getD k 0)) ((0,0,0,[]):NodeD)).2.2.1,(ns.getD (Int.toNat (kp.getD k 0)) ((0,0,0,[]):NodeD)).2.2.2):=nodeC_at (p:=(pi,ts,ns,os)) hF (by show (kp.getD k 0).toNat < ns.length; omega)
   have hnx:cntK ns kp (k+1)=cntK ns kp k+(startV (ns.getD (Int.toNat (kp.getD k 0)) ((0,0,0,[]):NodeD))).length:=cntK_next (by omega)
   have h16:cntK ns kp (k+1)≤16 * (k+1):=cntK_16 (p:=(pi,ts,ns,os)) hF hrg _ (by omega)
   have hse:(startV ((ns.getD (Int.toNat (kp.getD k 0)) ((0,0,0,[]):NodeD)).1,(ns.getD (Int.toNat (kp.getD k 0)) ((0,0,0,[]):NodeD)).2.1,(ns.getD (Int.toNat (kp.getD k 0)) ((0,0,0,[]):NodeD)).2.2.1,(ns.getD (Int.toNat (kp.getD k 0)) ((0,0,0,[]):NodeD)).2.2.2)).length=(startV (ns.getD (Int.toNat (kp.getD k 0)) ((0,0,0,[]):NodeD))).length:=rfl
   have hw:IntKind.i64.wrap ((cntK ns kp k:Int)+((startV ((ns.getD (Int.toNat (kp.getD k 0)) ((0,0,0,[]):NodeD)).1,(ns.getD (Int.toNat (kp.getD k 0)) ((0,0,0,[]):NodeD)).2.1,(ns.getD (Int.toNat (kp.getD k 0)) ((0,0,0,[]):NodeD)).2.2.1,(ns.getD (Int.toNat (kp.getD k 0)) ((0,0,0,[]):NodeD)).2.2.2)).length:Int))=(cntK ns kp (k+1):Int):=by rw [wrapI (by omega)]; omega
   refine AWP_skip ?_;simp only[go_sem];refine hK7 _ ?_;refine oS fun _ hK8=>?_;refine AWP_block ?_;refine oS fun _ hK9=>?_;refine oW T_isLinP_ok ?_;simp only[go_sem];repeat (with_reducible refine oA ?_)
   refine hK9 _ ?_;refine oW T_isLinP_ok ?_;simp (maxSteps:=2000000)only[hw,go_sem];repeat (with_reducible first | refine oA ?_ | refine And.intro (by first | exact hnc) ?_)
   refine hK8 _ ?_;refine oW T_isLinP_ok ?_;simp only[go_sem];refine hL5 ⟨k+1,by omega⟩ _ (oK ?_) ?_
   ·
    simp (maxSteps:=2000000)only[go_sem];all_goals ((repeat' refine And.intro ?_ ?_)<;>first | rfl | exact wk (by omega) | (congr 1; done))
   ·
    first | (simp only[]; omega) | omega | (simp; omega)
  intro c0;have hke:k=kp.length:=by omega
  refine AWP_exit ?_;simp only[go_sem];refine hK3 _ ?_;refine oS fun _ hK10=>?_;refine oW T_isLinP_ok ?_;simp only[go_sem];refine hK10 _ ?_;refine AWP_ret ?_;simp only[hres,go_sem];first | exact oF | (refine ⟨?_,oF⟩; rw [hcT,hke])
def T_stCount:Tab:=fun f=>if f=33 then some (.p K_stCount) else T_isLinP f
theorem T_stCount_ok:TabOk Tryz.prog T_stCount:=tabP stCount_ok (fnOk_of Tryz.func33 rfl (by decide)) T_isLinP_ok
attribute [go_sem] T_stCount K_stCount
def K_unit:Con:=⟨[.val (.int .i64),.val (.int .i64)],[⟨(.row 2 (.int .i64)),true⟩],fun x=>inR x.1 0 1099511627776=true∧0≤x.2.1∧x.2.1 < x.1,fun x=>unitL (Int.toNat x.1) (Int.toNat x.2.1)⟩
theorem unit_ok:PureT Tryz.prog 78 K_unit:=by
  refine pure_of_body Tryz.func78 rfl ?_
  have hres:Tryz.f78.results.toList=[.tmp 4]:=rfl
  rintro ⟨(x:Int),(y:Int),_⟩ hc hL
  simp only[K_unit,go_sem] at hL
  simp only[K_unit,St.init,St.initG,Tryz.ntmps78,go_sem] 
  obtain ⟨hx,hy0,hy1⟩:=(show inR x 0 1099511627776=true∧0≤y∧y < x from hc)
  obtain ⟨hx1,hx2⟩:=inR_iff.1 hx
  refine oS fun _ hK1=>?_;refine oW T_stCount_ok ?_;simp only[go_sem];refine hK1 _ ?_;refine oS fun _ hK2=>?_;refine oW T_stCount_ok ?_;simp only[go_sem];repeat (with_reducible first | refine oA ?_ | refine And.intro (by first | exact hx) ?_)
  refine hK2 _ ?_;refine oS fun _ hK3=>?_;refine oW T_stCount_ok ?_;simp only[List.length_replicate,go_sem];repeat (with_reducible refine oA ?_)
  refine hK3 _ ?_;refine oS fun _ hK4=>?_;refine oW T_stCount_ok ?_;simp only[go_sem];refine hK4 _ ?_;refine AWP_ret ?_;simp only[hres,go_sem];first | exact oF | exact oFr
def T_unit:Tab:=fun f=>if f=78 then some (.p K_unit) else T_stCount f
theorem T_unit_ok:TabOk Tryz.prog T_unit:=tabP unit_ok (fnOk_of Tryz.func78 rfl (by decide)) T_stCount_ok
attribute [go_sem] T_unit K_unit
def K_flat:Con:=⟨[.val ((.row 26 (.row 2 (.int .i64))))],[⟨(.row 2 (.int .i64)),true⟩],fun x=>x.1.flatten.length≤1000000,fun x=>x.1.flatten⟩
theorem flat_ok:PureT Tryz.prog 76 K_flat:=by
  refine pure_of_body Tryz.func76 rfl ?_
  have hres:Tryz.f76.results.toList=[.tmp 2]:=rfl
  rintro ⟨(cc:List (List Int)),_⟩ hc hL
  simp only[K_flat,go_sem] at hL
  obtain ⟨lcc,lcc2⟩:=hL;simp only[K_flat,St.init,St.initG,Tryz.ntmps76,go_sem] 
  have hfl:cc.flatten.length≤1000000:=hc
  refine oS fun _ hK1=>?_;refine oW T_unit_ok ?_;simp only[go_sem];refine hK1 _ ?_;refine oS fun _ hK2=>?_;refine oW T_unit_ok ?_;simp only[List.nodup_nil,go_sem];repeat (with_reducible refine oA ?_)
  refine hK2 _ ?_;refine oS fun _ hK3=>?_;refine oS fun _ hK4=>?_;refine oW T_unit_ok ?_;simp only[go_sem];refine hK4 _ ?_;refine AWP_block ?_;refine AWP_loop_k (ι:={ k:Nat // k≤cc.length }) (fun k=>⟨[zz,zz,zz,.c (.ow 9003),zz,zz,zz,.c (.rd [] 26 (.row 2 (.int .i64)) (cc)),.c (.sc (.int .i64 (cc.length))),.c (.sc (.int .i64 (k.1))),zz,zz,zz,zz,zz,zz,zz,zz],[(9003,.row 2 (.int .i64) ((cc.take k.1).flatten) [])]⟩) (fun k=>cc.length - k.1) ⟨0,by simp⟩ ?_ ?_
  ·
   refine oK ?_;simp (maxSteps:=2000000)only[go_sem];all_goals (first | rfl | ((repeat' refine And.intro ?_ ?_)<;>first | rfl | simp))
  rintro ⟨k,hk⟩ K5 hL5
  refine oS fun _ hK6=>?_;refine oW T_unit_ok ?_;simp only[go_sem];refine hK6 _ ?_;refine oS fun _ hK7=>?_;refine oC rfl ?_ ?_
  ·
   intro c0;have hnx:=flat_next (xs:=cc) (k:=k) (by omega)
   have hle:=flat_le (xs:=cc) (k:=k) (by omega)
   refine AWP_skip ?_;simp only[go_sem];refine hK7 _ ?_;refine oS fun _ hK8=>?_;refine AWP_block ?_;refine oS fun _ hK9=>?_;refine oW T_unit_ok ?_;simp only[go_sem];repeat (with_reducible refine oA ?_)
   refine hK9 _ ?_;refine oW T_unit_ok ?_;simp only[go_sem];repeat (with_reducible first | refine oA ?_ | refine And.intro (by first | omega) ?_)
   refine hK8 _ ?_;refine oW T_unit_ok ?_;simp only[go_sem];refine hL5 ⟨k+1,by omega⟩ _ (oK ?_) ?_
   ·
    simp (maxSteps:=2000000)only[go_sem];all_goals ((repeat' refine And.intro ?_ ?_)<;>first | rfl | exact wk (by omega) | exact hnx | (congr 1; exact hnx) | (congr 1; done))
   ·
    first | (simp only[]; omega) | omega | (simp; omega)
  intro c0;have hfd:=flat_done (xs:=cc) (k:=k) (by omega)
  refine AWP_exit ?_;simp only[go_sem];refine hK3 _ ?_;refine oS fun _ hK10=>?_;refine oW T_unit_ok ?_;simp only[go_sem];refine hK10 _ ?_;refine AWP_ret ?_;simp only[hres,go_sem];first | exact oF | (refine ⟨?_,oF⟩; exact hfd)
def T_flat:Tab:=fun f=>if f=76 then some (.p K_flat) else T_unit f
theorem T_flat_ok:TabOk Tryz.prog T_flat:=tabP flat_ok (fnOk_of Tryz.func76 rfl (by decide)) T_unit_ok
attribute [go_sem] T_flat K_flat
end Go.Proofs.YtgmabhkmiokiaaaGreat
