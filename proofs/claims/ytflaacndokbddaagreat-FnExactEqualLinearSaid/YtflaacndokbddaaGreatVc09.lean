/-
  Texts of this claim, joined (part 9). No condition beyond those of the theorems.
-/
import Derived.Test.YtflaacndokbddaaGreatVc05
import Derived.Test.YtflaacndokbddaaGreatVc06
namespace Go.Proofs.YtflaacndokbddaaGreat
open Go.RowKit
set_option linter.unusedSimpArgs false
set_option linter.unusedVariables false
set_option maxRecDepth 100000
set_option maxHeartbeats 4000000
def T_heldL:Tab:=T0
attribute [go_sem] T_heldL
set_option maxRecDepth 100000
set_option maxHeartbeats 4000000
def T_markP:Tab:=T_heldL
attribute [go_sem] T_markP
set_option maxRecDepth 100000
set_option maxHeartbeats 1000000
def K_Wrap:Con:=⟨[.val (.int .i64)],[⟨.int .i64,true⟩],fun _=>True,fun x=>wrap32 x.1⟩
theorem Wrap_ok:PureT Tryz.prog 150 K_Wrap:=by
  refine pure_of_body Tryz.func150 rfl ?_
  have hres:Tryz.f150.results.toList=[.tmp 2]:=rfl
  rintro ⟨(x:Int),_⟩ hc hL
  simp only[K_Wrap,go_sem] at hL
  simp only[K_Wrap,St.init,St.initG,Tryz.ntmps150,go_sem] 
  refine oS fun _ hK1=>?_
  refine oW T_kinds_ok ?_
  simp only[go_sem]
  refine hK1 _ ?_
  refine oS fun _ hK2=>?_
  refine oW T_kinds_ok ?_
  simp only[Tryz.underlying21,go_sem]
  refine hK2 _ ?_
  refine AWP_ret ?_
  simp only[hres,go_sem]
  first | exact oF | (refine ⟨?_,oF⟩; exact w3264 x)
def T_Wrap:Tab:=fun f=>if f=150 then some (.p K_Wrap) else T_kinds f
theorem T_Wrap_ok:TabOk Tryz.prog T_Wrap:=tabP Wrap_ok (fnOk_of Tryz.func150 rfl (by decide)) T_kinds_ok
attribute [go_sem] T_Wrap K_Wrap
def K_unsigned:Con:=⟨[.val (.int .i64)],[⟨.int .i64,true⟩],fun _=>True,fun x=>uns x.1⟩
theorem unsigned_ok:PureT Tryz.prog 235 K_unsigned:=by
  refine pure_of_body Tryz.func235 rfl ?_
  have hres:Tryz.f235.results.toList=[.tmp 2]:=rfl
  rintro ⟨(x:Int),_⟩ hc hL
  simp only[K_unsigned,go_sem] at hL
  simp only[K_unsigned,St.init,St.initG,Tryz.ntmps235,go_sem] 
  refine oS fun _ hK1=>?_
  refine oW T_Wrap_ok ?_
  simp only[go_sem]
  refine hK1 _ ?_
  refine oS fun _ hK2=>?_
  refine oW T_Wrap_ok ?_
  simp only[go_sem]
  refine hK2 _ ?_
  refine AWP_ret ?_
  simp only[hres,go_sem]
  first | exact oF | (refine ⟨?_,oF⟩; exact unsE x)
def T_unsigned:Tab:=fun f=>if f=235 then some (.p K_unsigned) else T_Wrap f
theorem T_unsigned_ok:TabOk Tryz.prog T_unsigned:=tabP unsigned_ok (fnOk_of Tryz.func235 rfl (by decide)) T_Wrap_ok
attribute [go_sem] T_unsigned K_unsigned
def K_isOdd:Con:=⟨[.val (.int .i64)],[⟨.bool,true⟩],fun _=>True,fun x=>decide (x.1 % 2=1)⟩
theorem isOdd_ok:PureT Tryz.prog 236 K_isOdd:=by
  refine pure_of_body Tryz.func236 rfl ?_
  have hres:Tryz.f236.results.toList=[.tmp 2]:=rfl
  rintro ⟨(x:Int),_⟩ hc hL
  simp only[K_isOdd,go_sem] at hL
  simp only[K_isOdd,St.init,St.initG,Tryz.ntmps236,go_sem] 
  refine oS fun _ hK1=>?_
  refine oW T_unsigned_ok ?_
  simp only[go_sem]
  refine hK1 _ ?_
  refine oS fun _ hK2=>?_
  refine oW T_unsigned_ok ?_
  simp only[go_sem]
  refine hK2 _ ?_
  refine AWP_ret ?_
  simp only[hres,go_sem]
  first | exact oF | (refine ⟨?_,oF⟩; exact congrArg (fun z=>decide (z=1)) (and1 x))
def T_isOdd:Tab:=fun f=>if f=236 then some (.p K_isOdd) else T_unsigned f
theorem T_isOdd_ok:TabOk Tryz.prog T_isOdd:=tabP isOdd_ok (fnOk_of Tryz.func236 rfl (by decide)) T_unsigned_ok
attribute [go_sem] T_isOdd K_isOdd
def K_noise:Con:=⟨[.val (.int .i64)],[⟨.int .i64,true⟩],fun _=>True,fun x=>noiseV x.1⟩
theorem noise_ok:PureT Tryz.prog 218 K_noise:=by
  refine pure_of_body Tryz.func218 rfl ?_
  have hres:Tryz.f218.results.toList=[.tmp 2]:=rfl
  rintro ⟨(x:Int),_⟩ hc hL
  simp only[K_noise,go_sem] at hL
  simp only[K_noise,St.init,St.initG,Tryz.ntmps218,go_sem] 
  have hu:=uns_bd x
  have hq:IntKind.i64.wrap (Int.tdiv (uns x) 2)=uns x / 2:=by rw [Int.tdiv_eq_ediv_of_nonneg hu.1]; exact wrapI (by omega)
  refine oS fun _ hK1=>?_
  refine oW T_isOdd_ok ?_
  simp only[go_sem]
  refine hK1 _ ?_
  refine oS fun _ hK2=>?_
  refine oW T_isOdd_ok ?_
  simp only[hq,go_sem]
  repeat (with_reducible first | refine oA ?_ | refine And.intro (by first | decide) ?_)
  refine hK2 _ ?_
  refine oS fun _ hK3=>?_
  refine oS fun _ hK4=>?_
  refine oW T_isOdd_ok ?_
  simp only[go_sem]
  repeat (with_reducible refine oA ?_)
  refine hK4 _ ?_
  refine oC rfl ?_ ?_
  ·
   intro c0
   refine oW T_isOdd_ok ?_
   simp only[xorE,go_sem]
   refine hK3 _ ?_
   refine oS fun _ hK5=>?_
   refine oW T_isOdd_ok ?_
   simp only[go_sem]
   repeat (with_reducible refine oA ?_)
   refine hK5 _ ?_
   refine AWP_ret ?_
   simp only[hres,go_sem]
   first | exact oF | (refine ⟨?_,oF⟩; first | exact (noiseV_t c0).symm | exact (noiseV_f c0).symm)
  intro c0
  refine AWP_skip ?_
  simp only[go_sem]
  refine hK3 _ ?_
  refine oS fun _ hK6=>?_
  refine oW T_isOdd_ok ?_
  simp only[go_sem]
  repeat (with_reducible refine oA ?_)
  refine hK6 _ ?_
  refine AWP_ret ?_
  simp only[hres,go_sem]
  first | exact oF | (refine ⟨?_,oF⟩; first | exact (noiseV_t c0).symm | exact (noiseV_f c0).symm)
def T_noise:Tab:=fun f=>if f=218 then some (.p K_noise) else T_isOdd f
theorem T_noise_ok:TabOk Tryz.prog T_noise:=tabP noise_ok (fnOk_of Tryz.func218 rfl (by decide)) T_isOdd_ok
attribute [go_sem] T_noise K_noise
def K_zeros:Con:=⟨[.val (.int .i64)],[⟨(.row 2 (.int .i64)),true⟩],fun x=>inR x.1 0 1099511627776=true,fun x=>List.replicate (Int.toNat x.1) 0⟩
theorem zeros_ok:PureT Tryz.prog 138 K_zeros:=by
  refine pure_of_body Tryz.func138 rfl ?_
  have hres:Tryz.f138.results.toList=[.tmp 2]:=rfl
  rintro ⟨(x:Int),_⟩ hc hL
  simp only[K_zeros,go_sem] at hL
  simp only[K_zeros,St.init,St.initG,Tryz.ntmps138,go_sem] 
  obtain ⟨h1,h2⟩:=inR_iff.1 (show inR x _ _=true from hc)
  refine oS fun _ hK1=>?_
  refine oW T_noise_ok ?_
  simp only[go_sem]
  refine hK1 _ ?_
  refine oS fun _ hK2=>?_
  refine oW T_noise_ok ?_
  simp only[List.nodup_nil,go_sem]
  repeat (with_reducible refine oA ?_)
  refine hK2 _ ?_
  refine AWP_ret ?_
  simp only[hres,go_sem]
  first | exact oF | exact oFr
def T_zeros:Tab:=fun f=>if f=138 then some (.p K_zeros) else T_noise f
theorem T_zeros_ok:TabOk Tryz.prog T_zeros:=tabP zeros_ok (fnOk_of Tryz.func138 rfl (by decide)) T_noise_ok
attribute [go_sem] T_zeros K_zeros
def K_l03Zeros:Con:=⟨[.val (.int .i64)],[⟨(.row 2 (.int .i64)),true⟩],fun x=>inR x.1 0 1099511627776=true,fun x=>List.replicate (Int.toNat x.1) 0⟩
theorem l03Zeros_ok:PureT Tryz.prog 175 K_l03Zeros:=by
  refine pure_of_body Tryz.func175 rfl ?_
  have hres:Tryz.f175.results.toList=[.tmp 2]:=rfl
  rintro ⟨(x:Int),_⟩ hc hL
  simp only[K_l03Zeros,go_sem] at hL
  simp only[K_l03Zeros,St.init,St.initG,Tryz.ntmps175,go_sem] 
  obtain ⟨h1,h2⟩:=inR_iff.1 (show inR x _ _=true from hc)
  refine oS fun _ hK1=>?_
  refine oW T_zeros_ok ?_
  simp only[go_sem]
  refine hK1 _ ?_
  refine oS fun _ hK2=>?_
  refine oW T_zeros_ok ?_
  simp only[List.nodup_nil,go_sem]
  repeat (with_reducible refine oA ?_)
  refine hK2 _ ?_
  refine oS fun _ hK3=>?_
  refine AWP_block ?_
  refine AWP_loop_k (ι:={ k:Nat // k≤x.toNat }) (fun k=>⟨[.c (.sc (.int .i64 (x - k.1))),zz,zz,.c (.ow 9001),zz,zz,zz,zz,zz,zz,zz,zz,zz],[(9001,.row 2 (.int .i64) (List.replicate k.1 0) [])]⟩) (fun k=>x.toNat - k.1) ⟨0,by simp⟩ ?_ ?_
  ·
   refine oK ?_
   simp (maxSteps:=2000000)only[go_sem]
   all_goals first | rfl | omega | ((repeat' refine And.intro ?_ ?_)<;>first | rfl | omega | simp)
  rintro ⟨k,hk⟩ K4 hL4
  have hw:IntKind.i64.wrap (x - (k:Int) - 1)=x - ((k+1:Nat):Int):=by rw [wrapI (by omega)]; omega
  have hrl:(List.replicate k (0:Int)).length=k:=List.length_replicate
  refine oS fun _ hK5=>?_
  refine oS fun _ hK6=>?_
  refine oW T_zeros_ok ?_
  simp only[go_sem]
  refine hK6 _ ?_
  refine oC rfl ?_ ?_
  ·
   intro c0
   refine AWP_skip ?_
   simp only[go_sem]
   refine hK5 _ ?_
   refine oS fun _ hK7=>?_
   refine AWP_block ?_
   refine oW T_zeros_ok ?_
   simp only[go_sem]
   repeat (with_reducible refine oA ?_)
   refine hK7 _ ?_
   refine oW T_zeros_ok ?_
   simp only[go_sem]
   refine hL4 ⟨k+1,by omega⟩ _ (oK ?_) ?_
   ·
    simp (maxSteps:=2000000)only[go_sem]
    all_goals ((repeat' refine And.intro ?_ ?_)<;>first | rfl | exact hw | exact List.replicate_succ'.symm)
   ·
    first | (simp only[]; omega) | omega | (simp; omega)
  intro c0
  refine AWP_exit ?_
  simp only[go_sem]
  refine hK3 _ ?_
  refine oS fun _ hK8=>?_
  refine oW T_zeros_ok ?_
  simp only[go_sem]
  refine hK8 _ ?_
  refine AWP_ret ?_
  simp only[hres,go_sem]
  first | exact oF | (refine ⟨?_,oF⟩; rw [show x.toNat=k by omega])
def T_l03Zeros:Tab:=fun f=>if f=175 then some (.p K_l03Zeros) else T_zeros f
theorem T_l03Zeros_ok:TabOk Tryz.prog T_l03Zeros:=tabP l03Zeros_ok (fnOk_of Tryz.func175 rfl (by decide)) T_zeros_ok
attribute [go_sem] T_l03Zeros K_l03Zeros
def K_mapped:Con:=⟨[.val ((.row 2 (.int .i64))),.val ((.row 2 (.int .i64)))],[⟨(.row 2 (.int .i64)),true⟩],fun x=>x.1.length≤1000∧idxs x.2.1.length x.1=true,fun x=>x.1.map (fun q=>x.2.1.getD (Int.toNat q) 0)⟩
theorem mapped_ok:PureT Tryz.prog 52 K_mapped:=by
  refine pure_of_body Tryz.func52 rfl ?_
  have hres:Tryz.f52.results.toList=[.tmp 4]:=rfl
  rintro ⟨(xs:List Int),(vs:List Int),_⟩ hc hL
  simp only[K_mapped,go_sem] at hL
  obtain ⟨lxs,lvs⟩:=hL
  simp only[K_mapped,St.init,St.initG,Tryz.ntmps52,go_sem] 
  obtain ⟨h1,h2⟩:=(show xs.length≤1000∧idxs vs.length xs=true from hc)
  refine oS fun _ hK1=>?_
  refine oW T_l03Zeros_ok ?_
  simp only[go_sem]
  refine hK1 _ ?_
  refine oS fun _ hK2=>?_
  refine oW T_l03Zeros_ok ?_
  simp only[List.nodup_nil,go_sem]
  repeat (with_reducible refine oA ?_)
  refine hK2 _ ?_
  refine oS fun _ hK3=>?_
  refine oS fun _ hK4=>?_
  refine oW T_l03Zeros_ok ?_
  simp only[go_sem]
  refine hK4 _ ?_
  refine AWP_block ?_
  refine AWP_loop_k (ι:={ k:Nat // k≤xs.length }) (fun k=>⟨[zz,.c (.rd [] 2 (.int .i64) (vs)),zz,zz,zz,.c (.ow 9001),zz,zz,zz,.c (.rd [] 2 (.int .i64) (xs)),.c (.sc (.int .i64 (xs.length))),.c (.sc (.int .i64 (k.1))),zz,zz,zz,zz,zz,zz,zz,zz,zz,zz,zz,zz],[(9001,.row 2 (.int .i64) ((xs.take k.1).map (fun q=>vs.getD (Int.toNat q) 0)) [])]⟩) (fun k=>xs.length - k.1) ⟨0,by simp⟩ ?_ ?_
  ·
   refine oK ?_
   simp (maxSteps:=2000000)only[go_sem]
   all_goals first | rfl | ((repeat' refine And.intro ?_ ?_)<;>first | rfl | simp)
  rintro ⟨k,hk⟩ K5 hL5
  have hml:((xs.take k).map (fun q=>vs.getD (Int.toNat q) 0)).length≤1000:=by rw [List.length_map,List.length_take]; omega
  have hix:k < xs.length→0≤xs.getD k 0∧xs.getD k 0≤vs.length - 1:=fun h=>idxs_at h2 (getD_mem h)
  refine oS fun _ hK6=>?_
  refine oW T_l03Zeros_ok ?_
  simp only[go_sem]
  refine hK6 _ ?_
  refine oS fun _ hK7=>?_
  refine oC rfl ?_ ?_
  ·
   intro c0
   obtain ⟨hi1,hi2⟩:=hix (by omega)
   refine AWP_skip ?_
   simp only[go_sem]
   refine hK7 _ ?_
   refine oS fun _ hK8=>?_
   refine AWP_block ?_
   refine oS fun _ hK9=>?_
   refine oW T_l03Zeros_ok ?_
   simp only[go_sem]
   repeat (with_reducible refine oA ?_)
   refine hK9 _ ?_
   refine oW T_l03Zeros_ok ?_
   simp (maxSteps:=2000000)only[go_sem]
   repeat (with_reducible refine oA ?_)
   refine hK8 _ ?_
   refine oW T_l03Zeros_ok ?_
   simp only[go_sem]
   refine hL5 ⟨k+1,by omega⟩ _ (oK ?_) ?_
   ·
    simp (maxSteps:=2000000)only[go_sem]
    all_goals ((repeat' refine And.intro ?_ ?_)<;>first | rfl | exact wk (by omega) | exact map_next3 (0:Int) (by omega))
   ·
    first | (simp only[]; omega) | omega | (simp; omega)
  intro c0
  refine AWP_exit ?_
  simp only[go_sem]
  refine hK3 _ ?_
  refine oS fun _ hK10=>?_
  refine oW T_l03Zeros_ok ?_
  simp only[go_sem]
  refine hK10 _ ?_
  refine AWP_ret ?_
  simp only[hres,go_sem]
  first | exact oF | (refine ⟨?_,oF⟩; exact congrArg (List.map _) (List.take_of_length_le (by omega)))
def T_mapped:Tab:=fun f=>if f=52 then some (.p K_mapped) else T_l03Zeros f
theorem T_mapped_ok:TabOk Tryz.prog T_mapped:=tabP mapped_ok (fnOk_of Tryz.func52 rfl (by decide)) T_l03Zeros_ok
attribute [go_sem] T_mapped K_mapped
def K_l07Map:Con:=⟨[.val ((.row 2 (.int .i64))),.val ((.row 2 (.int .i64)))],[⟨(.row 2 (.int .i64)),true⟩],fun x=>x.1.length≤1000∧idxs x.2.1.length x.1=true,fun x=>x.1.map (fun q=>x.2.1.getD (Int.toNat q) 0)⟩
theorem l07Map_ok:PureT Tryz.prog 62 K_l07Map:=by
  refine pure_of_body Tryz.func62 rfl ?_
  have hres:Tryz.f62.results.toList=[.tmp 4]:=rfl
  rintro ⟨(xs:List Int),(vs:List Int),_⟩ hc hL
  simp only[K_l07Map,go_sem] at hL
  obtain ⟨lxs,lvs⟩:=hL
  simp only[K_l07Map,St.init,St.initG,Tryz.ntmps62,go_sem] 
  obtain ⟨h1,h2⟩:=(show xs.length≤1000∧idxs vs.length xs=true from hc)
  refine oS fun _ hK1=>?_
  refine oW T_mapped_ok ?_
  simp only[go_sem]
  refine hK1 _ ?_
  refine oS fun _ hK2=>?_
  refine oW T_mapped_ok ?_
  simp only[List.nodup_nil,go_sem]
  repeat (with_reducible refine oA ?_)
  refine hK2 _ ?_
  refine oS fun _ hK3=>?_
  refine oS fun _ hK4=>?_
  refine oW T_mapped_ok ?_
  simp only[go_sem]
  refine hK4 _ ?_
  refine AWP_block ?_
  refine AWP_loop_k (ι:={ k:Nat // k≤xs.length }) (fun k=>⟨[.c (.rd [] 2 (.int .i64) (xs)),.c (.rd [] 2 (.int .i64) (vs)),zz,zz,zz,.c (.ow 9001),.c (.sc (.int .i64 (k.1))),zz,zz,zz,zz,zz,zz,zz,zz,zz,zz,zz,zz,zz,zz,zz,zz,zz,zz],[(9001,.row 2 (.int .i64) ((xs.take k.1).map (fun q=>vs.getD (Int.toNat q) 0)) [])]⟩) (fun k=>xs.length - k.1) ⟨0,by simp⟩ ?_ ?_
  ·
   refine oK ?_
   simp (maxSteps:=2000000)only[go_sem]
   all_goals first | rfl | ((repeat' refine And.intro ?_ ?_)<;>first | rfl | simp)
  rintro ⟨k,hk⟩ K5 hL5
  have hml:((xs.take k).map (fun q=>vs.getD (Int.toNat q) 0)).length≤1000:=by rw [List.length_map,List.length_take]; omega
  have hix:k < xs.length→0≤xs.getD k 0∧xs.getD k 0≤vs.length - 1:=fun h=>idxs_at h2 (getD_mem h)
  refine oS fun _ hK6=>?_
  refine oS fun _ hK7=>?_
  refine oW T_mapped_ok ?_
  simp only[go_sem]
  refine hK7 _ ?_
  refine oC rfl ?_ ?_
  ·
   intro c0
   obtain ⟨hi1,hi2⟩:=hix (by omega)
   refine AWP_skip ?_
   simp only[go_sem]
   refine hK6 _ ?_
   refine oS fun _ hK8=>?_
   refine AWP_block ?_
   refine oW T_mapped_ok ?_
   simp (maxSteps:=2000000)only[go_sem]
   repeat (with_reducible refine oA ?_)
   refine hK8 _ ?_
   refine oW T_mapped_ok ?_
   simp only[go_sem]
   refine hL5 ⟨k+1,by omega⟩ _ (oK ?_) ?_
   ·
    simp (maxSteps:=2000000)only[go_sem]
    all_goals ((repeat' refine And.intro ?_ ?_)<;>first | rfl | exact wk (by omega) | exact map_next3 (0:Int) (by omega))
   ·
    first | (simp only[]; omega) | omega | (simp; omega)
  intro c0
  refine AWP_exit ?_
  simp only[go_sem]
  refine hK3 _ ?_
  refine oS fun _ hK9=>?_
  refine oW T_mapped_ok ?_
  simp only[go_sem]
  refine hK9 _ ?_
  refine AWP_ret ?_
  simp only[hres,go_sem]
  first | exact oF | (refine ⟨?_,oF⟩; exact congrArg (List.map _) (List.take_of_length_le (by omega)))
def T_l07Map:Tab:=fun f=>if f=62 then some (.p K_l07Map) else T_mapped f
theorem T_l07Map_ok:TabOk Tryz.prog T_l07Map:=tabP l07Map_ok (fnOk_of Tryz.func62 rfl (by decide)) T_mapped_ok
attribute [go_sem] T_l07Map K_l07Map
structure DivOk (E:Nat→Nat→Bool) (i:Nat) (d:List Int × List Nat):Prop where
 len:d.1.length=i
 lt :∀c,c < d.2.length→d.2.getD c 0 < i
 at_ :∀k,k < i→∃ c:Nat,d.1.getD k 0=(c:Int)∧c < d.2.length∧E (d.2.getD c 0) k=true
 ne :∀c c',c < c'→c' < d.2.length→E (d.2.getD c 0) (d.2.getD c' 0)=false
section
variable {E:Nat→Nat→Bool} {n:Nat} (rfl' :∀k,E k k=true) (sym :∀k i,E k i=true→E i k=true) (tr :∀k i j,E k i=true→E i j=true→E k j=true)
include sym tr in
theorem DivOk.uniq {i:Nat} {d:List Int × List Nat} (h:DivOk E i d) {c c':Nat} (hc:c < d.2.length) (hc':c' < d.2.length) {k:Nat} (h1:E (d.2.getD c 0) k=true) (h2:E (d.2.getD c' 0) k=true):c=c':=by
 have h3:=tr _ _ _ h1 (sym _ _ h2)
 rcases Nat.lt_trichotomy c c' with e | e | e
 · rw [h.ne c c' e hc'] at h3; cases h3
 · exact e
 · have h4:=sym _ _ h3
   rw [h.ne c' c e hc] at h4; cases h4
include sym tr in
theorem DivOk.rel {i:Nat} {d:List Int × List Nat} (h:DivOk E i d) {k j:Nat} (hk:k < i) (hj:j < i):d.1.getD k 0=d.1.getD j 0↔E k j=true:=by
 obtain ⟨c,c1,c2,c3⟩:=h.at_ k hk
 obtain ⟨c',c1',c2',c3'⟩:=h.at_ j hj
 rw [c1,c1']
 constructor
 · intro e
   obtain rfl:c=c':=by omega
   exact tr _ _ _ (sym _ _ c3) c3'
 · intro e
   rw [h.uniq sym tr c2 c2' (tr _ _ _ c3 e) c3']
end
section
variable {κ:Type} [DecidableEq κ] {f:Nat→κ}
end
open Go.RowKit
def keyOf (ts:List (List Int)) (n:NodeD):Int × Int × Int × List Int:=match decide (n.1=13) with
 | true=>(n.1,n.2.2.1,0,ts.getD n.2.1.toNat [])
 | false=>(n.1,n.2.2.1,n.2.1,[])
theorem keyOf_t {ts:List (List Int)} {n:NodeD} (h:n.1=13):keyOf ts n=(n.1,n.2.2.1,0,ts.getD n.2.1.toNat []):=by unfold keyOf; rw [decide_eq_true h]
theorem keyOf_f {ts:List (List Int)} {n:NodeD} (h:¬ n.1=13):keyOf ts n=(n.1,n.2.2.1,n.2.1,[]):=by unfold keyOf; rw [decide_eq_false h]
theorem keyOf_k {ts:List (List Int)} {n:NodeD}:(keyOf ts n).1=n.1∧(keyOf ts n).2.1=n.2.2.1:=by unfold keyOf; split<;>exact ⟨rfl,rfl⟩
def swapB (n:NodeD):Bool:=decide (n.1=3) || decide (n.1=9)
def srt:List Int→List Int
 | [a,b]=>match decide (b < a) with | true=>[b,a] | false=>[a,b]
 | l=>l
def clsM (cl fr:List Int):List Int:=fr.map fun q=>cl.getD q.toNat 0
section
variable {ts:List (List Int)} {ns:List NodeD}
end
open Go.RowKit
def tabIx (ts:List (List Int)) (n:NodeD):Prop:=n.1=13→0≤n.2.1∧n.2.1 < ts.length
def insIx (m:Nat) (n:NodeD):Prop:=n.2.2.2.length≤3∧idxs m n.2.2.2=true∧(swapB n=true→n.2.2.2.length=2)
def uOk (ts:List (List Int)) (ns:List NodeD):Prop:=ns.length≤48∧∀ n∈ns,tabIx ts n∧insIx ns.length n
theorem node_len {p:PatchD} {n:NodeD} (q:nodeB n p.2.1.length=true):n.2.2.2.length≤3∧(swapB n=true→n.2.2.2.length=2)∧(n.1=13→0≤n.2.1∧n.2.1 < p.2.1.length):=by
 obtain ⟨kd,a,b,fr⟩:=n
 obtain ⟨h1,h2,_⟩:=nodeB_parts q
 obtain ⟨_,_,_,_,_,h13,_,h3,h4,h5,h6⟩:=nodeB_ab q
 simp only at h1 h2 h13 ⊢
 refine ⟨?_,fun hs=>?_,fun e=>⟨(h13 e).1,(h13 e).2.2⟩⟩
 · have e3:(kd=3∨kd=4∨kd=9∨kd=16)∨(kd=5∨kd=6∨kd=7∨kd=8∨kd=10∨kd=11∨kd=12∨kd=13∨kd=17)∨kd=15∨(kd=1∨kd=2∨kd=14):=by omega
   rcases e3 with e | e | e | e
   · have:=h3 e; omega
   · have:=h4 e; omega
   · have:=h5 e; omega
   · have:=h6 e; omega
 · simp only[swapB,Bool.or_eq_true,decide_eq_true_eq] at hs
   exact h3 (by omega)
theorem uOk_patch {p:PatchD} (h:formedB p=true):uOk p.2.1 p.2.2.1:=by
 refine ⟨by have:=(formedB_parts h).1; omega,fun n hn=>?_⟩
 obtain ⟨q1,q2,_⟩:=nodeIn_parts (List.all_eq_true.1 (formedB_parts h).2.2.2.2.2.2 n hn)
 obtain ⟨a,b,c⟩:=node_len (p:=p) q1
 exact ⟨c,a,q2,b⟩
section
variable {E:Nat→Nat→Bool} {n i:Nat}
end
section
variable {p:PatchD} {cl:List Int}
end
open Go.RowKit
def mrgX (cl:List Int) (n:NodeD):NodeD:=(n.1,n.2.1,n.2.2.1,clsM cl n.2.2.2)
open Go.RowKit
def byL (n:Nat) (kp:List Int):Nat→List Int
 | 0=>List.replicate n 0
 | k+1=>(byL n kp k).set (kp.getD k 0).toNat (k:Int)
theorem byL_len (n:Nat) (kp:List Int) :∀k,(byL n kp k).length=n:=by
 intro k
 induction k with
 | zero=>simp [byL]
 | succ k ih=>simp [byL,ih]
theorem byL_at {n:Nat} {kp:List Int} (hr :∀j,j < kp.length→0≤kp.getD j 0∧kp.getD j 0 < n) (hd :∀i j,i < kp.length→j < kp.length→kp.getD i 0=kp.getD j 0→i=j) :∀k,k≤kp.length→∀ j,j < k→(byL n kp k).getD (kp.getD j 0).toNat 0=(j:Int):=by
 intro k
 induction k with
 | zero=>intro _ j hj; omega
 | succ k ih =>
   intro hk j hj
   have h1:=hr k (by omega)
   have h2:=hr j (by omega)
   have hl:=byL_len n kp k
   simp only[byL]
   rw [getD_set (by omega)]
   by_cases e:(kp.getD k 0).toNat=(kp.getD j 0).toNat
   · rw [if_pos e]
     have:k=j:=hd k j (by omega) (by omega) (by omega)
     rw [this]
   · rw [if_neg e]
     refine ih (by omega) j ?_
     rcases Nat.lt_or_ge j k with h | h
     · exact h
     · have:j=k:=by omega
       subst this; exact absurd rfl e
def keepN (ns:List NodeD) (b:List Int) (f:Int):NodeD:=mrgX b (ns.getD f.toNat n0)
def keepP (p:PatchD) (kp:List Int):PatchD:=(p.1,p.2.1,kp.map (keepN p.2.2.1 (byL p.2.2.1.length kp kp.length)),clsM (byL p.2.2.1.length kp kp.length) p.2.2.2)
structure KeepOk (p:PatchD) (kp:List Int):Prop where
 fits:fitsP p
 n24:p.2.2.1.length≤24
 k24:kp.length≤24
 rng:idxs p.2.2.1.length kp=true
 frs :∀x∈p.2.2.1,x.2.2.2.length≤23∧idxs p.2.2.1.length x.2.2.2=true
 o4:p.2.2.2.length≤4
 outs:idxs p.2.2.1.length p.2.2.2=true
theorem idxs_of {n:Nat} {l:List Int} (h :∀j,j < l.length→0≤l.getD j 0∧l.getD j 0 < n):idxs n l=true:=by
 refine List.all_eq_true.2 fun q hq=>?_
 obtain ⟨i,hi,rfl⟩:=List.mem_iff_getElem.1 hq
 have:=h i hi
 rw [List.getD_eq_getElem?_getD,List.getElem?_eq_getElem hi] at this
 simp only[Option.getD_some] at this
 exact inR_iff.2 ⟨this.1,by omega⟩
theorem map_nx {α β:Type} {f:α→β} {xs:List α} {k:Nat} (d:α) (h:k < xs.length):(xs.take k).map f++[f (xs.getD k d)]=(xs.take (k+1)).map f:=by
 rw [take_next (d:=d) h,List.map_append]; rfl
set_option maxRecDepth 100000
set_option maxHeartbeats 4000000
def K_same:Con:=⟨[.val ((.row 2 (.int .i64))),.val ((.row 2 (.int .i64)))],[⟨.bool,true⟩],fun _=>True,fun x=>eqD (x.1:List Int) (x.2.1:List Int)⟩
theorem same_ok:PureT Tryz.prog 110 K_same:=by
  refine pure_of_body Tryz.func110 rfl ?_
  have hres:Tryz.f110.results.toList=[.tmp 4]:=rfl
  rintro ⟨(xs:List Int),(ys:List Int),_⟩ hc hL
  simp only[K_same,go_sem] at hL
  obtain ⟨lxs,lys⟩:=hL
  simp only[K_same,St.init,St.initG,Tryz.ntmps110,go_sem] 
  refine oS fun _ hK1=>?_
  refine oW T_l07Map_ok ?_
  simp only[go_sem]
  refine hK1 _ ?_
  refine oS fun _ hK2=>?_
  refine oS fun _ hK3=>?_
  refine oW T_l07Map_ok ?_
  simp (maxSteps:=2000000)only[go_sem]
  refine hK3 _ ?_
  refine oC rfl ?_ ?_
  ·
   intro c0
   refine oS fun _ hK4=>?_
   refine oW T_l07Map_ok ?_
   simp only[go_sem]
   refine hK4 _ ?_
   refine AWP_ret ?_
   simp only[hres,go_sem]
   first | exact oF | (refine ⟨?_,oF⟩; exact (eq_len (by omega)).symm)
  intro c0
  refine AWP_skip ?_
  simp only[go_sem]
  refine hK2 _ ?_
  refine oS fun _ hK5=>?_
  refine oS fun _ hK6=>?_
  refine oW T_l07Map_ok ?_
  simp only[go_sem]
  refine hK6 _ ?_
  refine AWP_block ?_
  refine AWP_loop_k (ι:={ k:Nat // k≤xs.length∧xs.take k=ys.take k }) (fun k=>⟨[zz,.c (.rd [] 2 (.int .i64) (ys)),zz,zz,zz,zz,zz,zz,zz,zz,zz,zz,.c (.rd [] 2 (.int .i64) (xs)),.c (.sc (.int .i64 (xs.length))),.c (.sc (.int .i64 (k.1))),zz,zz,zz,zz,zz,zz,zz,zz,zz,zz,zz],[]⟩) (fun k=>xs.length - k.1) ⟨0,by simp,by simp⟩ ?_ ?_
  ·
   refine oK ?_
   simp (maxSteps:=2000000)only[go_sem]
   all_goals (first | rfl | ((repeat' refine And.intro ?_ ?_)<;>first | rfl | simp))
  rintro ⟨k,hk,hp⟩ K7 hL7
  refine oS fun _ hK8=>?_
  refine oW T_l07Map_ok ?_
  simp only[go_sem]
  refine hK8 _ ?_
  refine oS fun _ hK9=>?_
  refine oC rfl ?_ ?_
  ·
   intro c1
   refine AWP_skip ?_
   simp only[go_sem]
   refine hK9 _ ?_
   refine oS fun _ hK10=>?_
   refine AWP_block ?_
   refine oS fun _ hK11=>?_
   refine oW T_l07Map_ok ?_
   simp (maxSteps:=2000000)only[go_sem]
   repeat (with_reducible refine oA ?_)
   refine hK11 _ ?_
   refine oS fun _ hK12=>?_
   refine oW T_l07Map_ok ?_
   simp (maxSteps:=2000000)only[go_sem]
   repeat (with_reducible refine oA ?_)
   refine hK12 _ ?_
   refine oC rfl ?_ ?_
   ·
    intro c2
    refine oS fun _ hK13=>?_
    refine oW T_l07Map_ok ?_
    simp only[go_sem]
    refine hK13 _ ?_
    refine AWP_ret ?_
    simp only[hres,go_sem]
    first | exact oF | (refine ⟨?_,oF⟩; exact (eq_stop (0:Int) (m:=k) (decide_eq_false (by assumption))).symm)
   intro c2
   refine AWP_skip ?_
   simp only[go_sem]
   refine hK10 _ ?_
   refine oW T_l07Map_ok ?_
   simp only[go_sem]
   refine hL7 ⟨k+1,by omega,eq_next (d:=(0:Int)) (by omega) (by omega) hp (decide_eq_true (by assumption))⟩ _ (oK ?_) ?_
   ·
    simp (maxSteps:=2000000)only[go_sem]
    all_goals (first | rfl | ((repeat' refine And.intro ?_ ?_)<;>first | rfl | exact wk (by omega) | simp))
   ·
    first | (simp only[]; omega) | omega | (simp; omega)
  intro c1
  refine AWP_exit ?_
  simp only[go_sem]
  refine hK5 _ ?_
  refine oS fun _ hK14=>?_
  refine oW T_l07Map_ok ?_
  simp only[go_sem]
  refine hK14 _ ?_
  refine AWP_ret ?_
  simp only[hres,go_sem]
  first | exact oF | (refine ⟨?_,oF⟩; exact (eq_done (m:=k) (by omega) (by omega) hp).symm)
def T_same:Tab:=fun f=>if f=110 then some (.p K_same) else T_l07Map f
theorem T_same_ok:TabOk Tryz.prog T_same:=tabP same_ok (fnOk_of Tryz.func110 rfl (by decide)) T_l07Map_ok
attribute [go_sem] T_same K_same
def K_l00Same:Con:=⟨[.val ((.row 2 (.int .i64))),.val ((.row 2 (.int .i64)))],[⟨.bool,true⟩],fun _=>True,fun x=>eqD (x.1:List Int) (x.2.1:List Int)⟩
theorem l00Same_ok:PureT Tryz.prog 160 K_l00Same:=by
  refine pure_of_body Tryz.func160 rfl ?_
  have hres:Tryz.f160.results.toList=[.tmp 4]:=rfl
  rintro ⟨(xs:List Int),(ys:List Int),_⟩ hc hL
  simp only[K_l00Same,go_sem] at hL
  obtain ⟨lxs,lys⟩:=hL
  simp only[K_l00Same,St.init,St.initG,Tryz.ntmps160,go_sem] 
  refine oS fun _ hK1=>?_
  refine oW T_same_ok ?_
  simp only[go_sem]
  refine hK1 _ ?_
  refine oS fun _ hK2=>?_
  refine oS fun _ hK3=>?_
  refine oW T_same_ok ?_
  simp (maxSteps:=2000000)only[go_sem]
  refine hK3 _ ?_
  refine oC rfl ?_ ?_
  ·
   intro c0
   refine oS fun _ hK4=>?_
   refine oW T_same_ok ?_
   simp only[go_sem]
   refine hK4 _ ?_
   refine AWP_ret ?_
   simp only[hres,go_sem]
   first | exact oF | (refine ⟨?_,oF⟩; exact (eq_len (by omega)).symm)
  intro c0
  refine AWP_skip ?_
  simp only[go_sem]
  refine hK2 _ ?_
  refine oS fun _ hK5=>?_
  refine oS fun _ hK6=>?_
  refine oW T_same_ok ?_
  simp only[go_sem]
  refine hK6 _ ?_
  refine AWP_block ?_
  refine AWP_loop_k (ι:={ k:Nat // k≤xs.length∧xs.take k=ys.take k }) (fun k=>⟨[.c (.rd [] 2 (.int .i64) (xs)),.c (.rd [] 2 (.int .i64) (ys)),zz,zz,zz,.c (.sc (.int .i64 (k.1))),zz,zz,zz,zz,zz,zz,zz,zz,zz,zz,zz,zz,zz,zz,zz,zz,zz,zz,zz,zz],[]⟩) (fun k=>xs.length - k.1) ⟨0,by simp,by simp⟩ ?_ ?_
  ·
   refine oK ?_
   simp (maxSteps:=2000000)only[go_sem]
   all_goals (first | rfl | ((repeat' refine And.intro ?_ ?_)<;>first | rfl | simp))
  rintro ⟨k,hk,hp⟩ K7 hL7
  refine oS fun _ hK8=>?_
  refine oS fun _ hK9=>?_
  refine oW T_same_ok ?_
  simp only[go_sem]
  refine hK9 _ ?_
  refine oC rfl ?_ ?_
  ·
   intro c1
   refine AWP_skip ?_
   simp only[go_sem]
   refine hK8 _ ?_
   refine oS fun _ hK10=>?_
   refine AWP_block ?_
   refine oS fun _ hK11=>?_
   refine oR T_same_ok
     [[],[],[0,1],[0,1,2],[],[],[4,5],[4,5,6],[0,1,2,3,4,5,6,7]]
     [[],[],[],[],[],[],[],[],[]]
     [[],[],[],[],[],[],[],[],[]] (by kernel_rfl) (by kernel_rfl) (adrawR_ok (acc:=[]) ?_)
   simp (maxSteps:=2000000)only[go_sem]
   repeat (with_reducible refine oD ?_)
   refine hK11 _ ?_
   refine oC rfl ?_ ?_
   ·
    intro c2
    refine oS fun _ hK12=>?_
    refine oW T_same_ok ?_
    simp only[go_sem]
    refine hK12 _ ?_
    refine AWP_ret ?_
    simp only[hres,go_sem]
    first | exact oF | (refine ⟨?_,oF⟩; exact (eq_stop (0:Int) (m:=k) (decide_eq_false (by assumption))).symm)
   intro c2
   refine AWP_skip ?_
   simp only[go_sem]
   refine hK10 _ ?_
   refine oW T_same_ok ?_
   simp only[go_sem]
   refine hL7 ⟨k+1,by omega,eq_next (d:=(0:Int)) (by omega) (by omega) hp (decide_eq_true (by assumption))⟩ _ (oK ?_) ?_
   ·
    simp (maxSteps:=2000000)only[go_sem]
    all_goals (first | rfl | ((repeat' refine And.intro ?_ ?_)<;>first | rfl | exact wk (by omega) | simp))
   ·
    first | (simp only[]; omega) | omega | (simp; omega)
  intro c1
  refine AWP_exit ?_
  simp only[go_sem]
  refine hK5 _ ?_
  refine oS fun _ hK13=>?_
  refine oW T_same_ok ?_
  simp only[go_sem]
  refine hK13 _ ?_
  refine AWP_ret ?_
  simp only[hres,go_sem]
  first | exact oF | (refine ⟨?_,oF⟩; exact (eq_done (m:=k) (by omega) (by omega) hp).symm)
def T_l00Same:Tab:=fun f=>if f=160 then some (.p K_l00Same) else T_same f
theorem T_l00Same_ok:TabOk Tryz.prog T_l00Same:=tabP l00Same_ok (fnOk_of Tryz.func160 rfl (by decide)) T_same_ok
attribute [go_sem] T_l00Same K_l00Same
def T_l12Alike:Tab:=T_l00Same
theorem T_l12Alike_ok:TabOk Tryz.prog T_l12Alike:=T_l00Same_ok
attribute [go_sem] T_l12Alike
set_option maxRecDepth 100000
set_option maxHeartbeats 8000000
def T_l12Classes:Tab:=T_l12Alike
theorem T_l12Classes_ok:TabOk Tryz.prog T_l12Classes:=T_l12Alike_ok
attribute [go_sem] T_l12Classes
end Go.Proofs.YtflaacndokbddaaGreat
