/-
  Texts of this claim, joined (part 23). No condition beyond those of the theorems.
-/
import Derived.Test.YtenjbehedcegdaaR06
import Derived.Test.YtenjbehedcegdaaR05
namespace Go.Proofs.Ytenjbehedcegdaa
open Go.RowKit
set_option linter.unusedSimpArgs false
set_option linter.unusedVariables false
set_option maxRecDepth 100000
set_option maxHeartbeats 1000000
def K_Wrap:Con:=⟨[.val (.int .i64)],[⟨.int .i64,true⟩],fun _=>True,fun x=>wrap32 x.1⟩
theorem Wrap_ok:PureT Try.prog 78 K_Wrap:=by
  refine pure_of_body Try.func78 rfl ?_
  have hres:Try.f78.results.toList=[.tmp 2]:=rfl
  rintro⟨(x:Int),_⟩ hc hL
  simp only[K_Wrap,go_sem] at hL
  simp only[K_Wrap,St.init,St.initG,Try.ntmps78,go_sem] 
  refine oS fun _ hK1=>?_
  refine oW T_kinds_ok ?_
  simp only[go_sem]
  refine hK1 _ ?_
  refine oS fun _ hK2=>?_
  refine oW T_kinds_ok ?_
  simp only[Try.underlying21,go_sem]
  refine hK2 _ ?_
  refine AWP_ret ?_
  simp only[hres,go_sem]
  first|exact oF|(refine⟨?_,oF⟩;exact w3264 x)
def T_Wrap:Tab:=fun f=>if f=78 then some (.p K_Wrap) else T_kinds f
theorem T_Wrap_ok:TabOk Try.prog T_Wrap:=tabP Wrap_ok (fnOk_of Try.func78 rfl (by decide)) T_kinds_ok
attribute [go_sem] T_Wrap K_Wrap
def K_unsigned:Con:=⟨[.val (.int .i64)],[⟨.int .i64,true⟩],fun _=>True,fun x=>uns x.1⟩
theorem unsigned_ok:PureT Try.prog 89 K_unsigned:=by
  refine pure_of_body Try.func89 rfl ?_
  have hres:Try.f89.results.toList=[.tmp 2]:=rfl
  rintro⟨(x:Int),_⟩ hc hL
  simp only[K_unsigned,go_sem] at hL
  simp only[K_unsigned,St.init,St.initG,Try.ntmps89,go_sem] 
  refine oS fun _ hK1=>?_
  refine oW T_Wrap_ok ?_
  simp only[go_sem]
  refine hK1 _ ?_
  refine oS fun _ hK2=>?_
  refine oW T_Wrap_ok ?_
  simp only[go_sem]
  refine hK2 _ ?_
  refine AWP_ret ?_
  simp only[hres,go_sem]
  first|exact oF|(refine⟨?_,oF⟩;exact unsE x)
def T_unsigned:Tab:=fun f=>if f=89 then some (.p K_unsigned) else T_Wrap f
theorem T_unsigned_ok:TabOk Try.prog T_unsigned:=tabP unsigned_ok (fnOk_of Try.func89 rfl (by decide)) T_Wrap_ok
attribute [go_sem] T_unsigned K_unsigned
def K_isOdd:Con:=⟨[.val (.int .i64)],[⟨.bool,true⟩],fun _=>True,fun x=>decide (x.1 % 2=1)⟩
theorem isOdd_ok:PureT Try.prog 90 K_isOdd:=by
  refine pure_of_body Try.func90 rfl ?_
  have hres:Try.f90.results.toList=[.tmp 2]:=rfl
  rintro⟨(x:Int),_⟩ hc hL
  simp only[K_isOdd,go_sem] at hL
  simp only[K_isOdd,St.init,St.initG,Try.ntmps90,go_sem] 
  refine oS fun _ hK1=>?_
  refine oW T_unsigned_ok ?_
  simp only[go_sem]
  refine hK1 _ ?_
  refine oS fun _ hK2=>?_
  refine oW T_unsigned_ok ?_
  simp only[go_sem]
  refine hK2 _ ?_
  refine AWP_ret ?_
  simp only[hres,go_sem]
  first|exact oF|(refine⟨?_,oF⟩;exact congrArg (fun z=>decide (z=1)) (and1 x))
def T_isOdd:Tab:=fun f=>if f=90 then some (.p K_isOdd) else T_unsigned f
theorem T_isOdd_ok:TabOk Try.prog T_isOdd:=tabP isOdd_ok (fnOk_of Try.func90 rfl (by decide)) T_unsigned_ok
attribute [go_sem] T_isOdd K_isOdd
def K_noise:Con:=⟨[.val (.int .i64)],[⟨.int .i64,true⟩],fun _=>True,fun x=>noiseV x.1⟩
theorem noise_ok:PureT Try.prog 79 K_noise:=by
  refine pure_of_body Try.func79 rfl ?_
  have hres:Try.f79.results.toList=[.tmp 2]:=rfl
  rintro⟨(x:Int),_⟩ hc hL
  simp only[K_noise,go_sem] at hL
  simp only[K_noise,St.init,St.initG,Try.ntmps79,go_sem] 
  have hu:=uns_bd x
  have hq:IntKind.i64.wrap (Int.tdiv (uns x) 2)=uns x / 2:=by rw[Int.tdiv_eq_ediv_of_nonneg hu.1];exact wrapI (by omega)
  refine oS fun _ hK1=>?_
  refine oW T_isOdd_ok ?_
  simp only[go_sem]
  refine hK1 _ ?_
  refine oS fun _ hK2=>?_
  refine oW T_isOdd_ok ?_
  simp only[hq,go_sem]
  repeat(with_reducible first|refine oA ?_|refine And.intro (by first|decide) ?_)
  refine hK2 _ ?_
  refine oS fun _ hK3=>?_
  refine oS fun _ hK4=>?_
  refine oW T_isOdd_ok ?_
  simp only[go_sem]
  repeat(with_reducible refine oA ?_)
  refine hK4 _ ?_
  refine oC rfl ?_ ?_
  ·
   intro c0
   refine oW T_isOdd_ok ?_
   simp only[xorE,go_sem]
   refine hK3 _ ?_
   refine oS fun _ hK5=>?_
   refine oW T_isOdd_ok ?_
   simp only[go_sem]
   repeat(with_reducible refine oA ?_)
   refine hK5 _ ?_
   refine AWP_ret ?_
   simp only[hres,go_sem]
   first|exact oF|(refine⟨?_,oF⟩;first|exact(noiseV_t c0).symm|exact(noiseV_f c0).symm)
  intro c0
  refine AWP_skip ?_
  simp only[go_sem]
  refine hK3 _ ?_
  refine oS fun _ hK6=>?_
  refine oW T_isOdd_ok ?_
  simp only[go_sem]
  repeat(with_reducible refine oA ?_)
  refine hK6 _ ?_
  refine AWP_ret ?_
  simp only[hres,go_sem]
  first|exact oF|(refine⟨?_,oF⟩;first|exact(noiseV_t c0).symm|exact(noiseV_f c0).symm)
def T_noise:Tab:=fun f=>if f=79 then some (.p K_noise) else T_isOdd f
theorem T_noise_ok:TabOk Try.prog T_noise:=tabP noise_ok (fnOk_of Try.func79 rfl (by decide)) T_isOdd_ok
attribute [go_sem] T_noise K_noise
def K_zeros:Con:=⟨[.val (.int .i64)],[⟨(.row 2 (.int .i64)),true⟩],fun x=>inR x.1 0 1099511627776=true,fun x=>List.replicate (Int.toNat x.1) 0⟩
theorem zeros_ok:PureT Try.prog 29 K_zeros:=by
  refine pure_of_body Try.func29 rfl ?_
  have hres:Try.f29.results.toList=[.tmp 2]:=rfl
  rintro⟨(x:Int),_⟩ hc hL
  simp only[K_zeros,go_sem] at hL
  simp only[K_zeros,St.init,St.initG,Try.ntmps29,go_sem] 
  obtain⟨h1,h2⟩:=inR_iff.1 (show inR x _ _=true from hc)
  refine oS fun _ hK1=>?_
  refine oW T_noise_ok ?_
  simp only[go_sem]
  refine hK1 _ ?_
  refine oS fun _ hK2=>?_
  refine oW T_noise_ok ?_
  simp only[List.nodup_nil,go_sem]
  repeat(with_reducible refine oA ?_)
  refine hK2 _ ?_
  refine AWP_ret ?_
  simp only[hres,go_sem]
  first|exact oF|exact oFr
def T_zeros:Tab:=fun f=>if f=29 then some (.p K_zeros) else T_noise f
theorem T_zeros_ok:TabOk Try.prog T_zeros:=tabP zeros_ok (fnOk_of Try.func29 rfl (by decide)) T_noise_ok
attribute [go_sem] T_zeros K_zeros
def K_l03Zeros:Con:=⟨[.val (.int .i64)],[⟨(.row 2 (.int .i64)),true⟩],fun x=>inR x.1 0 1099511627776=true,fun x=>List.replicate (Int.toNat x.1) 0⟩
theorem l03Zeros_ok:PureT Try.prog 68 K_l03Zeros:=by
  refine pure_of_body Try.func68 rfl ?_
  have hres:Try.f68.results.toList=[.tmp 2]:=rfl
  rintro⟨(x:Int),_⟩ hc hL
  simp only[K_l03Zeros,go_sem] at hL
  simp only[K_l03Zeros,St.init,St.initG,Try.ntmps68,go_sem] 
  obtain⟨h1,h2⟩:=inR_iff.1 (show inR x _ _=true from hc)
  refine oS fun _ hK1=>?_
  refine oW T_zeros_ok ?_
  simp only[go_sem]
  refine hK1 _ ?_
  refine oS fun _ hK2=>?_
  refine oW T_zeros_ok ?_
  simp only[List.nodup_nil,go_sem]
  repeat(with_reducible refine oA ?_)
  refine hK2 _ ?_
  refine oS fun _ hK3=>?_
  refine AWP_block ?_
  refine AWP_loop_k (ι:={ k:Nat // k≤x.toNat }) (fun k=>⟨[.c (.sc (.int .i64 (x - k.1))),zz,zz,.c (.ow 9001),zz,zz,zz,zz,zz,zz,zz,zz,zz],[(9001,.row 2 (.int .i64) (List.replicate k.1 0) [])]⟩) (fun k=>x.toNat - k.1) ⟨0,by simp⟩ ?_ ?_
  ·
   refine oK ?_
   simp (maxSteps:=2000000)only[go_sem]
   all_goals first|rfl|omega|((repeat' refine And.intro ?_ ?_)<;>first|rfl|omega|simp)
  rintro⟨k,hk⟩ K4 hL4
  have hw:IntKind.i64.wrap (x - (k:Int) - 1)=x - ((k+1:Nat):Int):=by rw[wrapI (by omega)];omega
  have hrl:(List.replicate k (0:Int)).length=k:=List.length_replicate
  refine oS fun _ hK5=>?_
  refine oS fun _ hK6=>?_
  refine oW T_zeros_ok ?_
  simp only[go_sem]
  refine hK6 _ ?_
  refine oC rfl ?_ ?_
  ·
   intro c0
   refine AWP_skip ?_
   simp only[go_sem]
   refine hK5 _ ?_
   refine oS fun _ hK7=>?_
   refine AWP_block ?_
   refine oW T_zeros_ok ?_
   simp only[go_sem]
   repeat(with_reducible refine oA ?_)
   refine hK7 _ ?_
   refine oW T_zeros_ok ?_
   simp only[go_sem]
   refine hL4 ⟨k+1,by omega⟩ _ (oK ?_) ?_
   ·
    simp (maxSteps:=2000000)only[go_sem]
    all_goals((repeat' refine And.intro ?_ ?_)<;>first|rfl|exact hw|exact List.replicate_succ'.symm)
   ·
    first|(simp only[];omega)|omega|(simp;omega)
  intro c0
  refine AWP_exit ?_
  simp only[go_sem]
  refine hK3 _ ?_
  refine oS fun _ hK8=>?_
  refine oW T_zeros_ok ?_
  simp only[go_sem]
  refine hK8 _ ?_
  refine AWP_ret ?_
  simp only[hres,go_sem]
  first|exact oF|(refine⟨?_,oF⟩;rw[show x.toNat=k by omega])
def T_l03Zeros:Tab:=fun f=>if f=68 then some (.p K_l03Zeros) else T_zeros f
theorem T_l03Zeros_ok:TabOk Try.prog T_l03Zeros:=tabP l03Zeros_ok (fnOk_of Try.func68 rfl (by decide)) T_zeros_ok
attribute [go_sem] T_l03Zeros K_l03Zeros
def K_mapped:Con:=⟨[.val ((.row 2 (.int .i64))),.val ((.row 2 (.int .i64)))],[⟨(.row 2 (.int .i64)),true⟩],fun x=>x.1.length≤1000∧idxs x.2.1.length x.1=true,fun x=>x.1.map (fun q=>x.2.1.getD (Int.toNat q) 0)⟩
theorem mapped_ok:PureT Try.prog 34 K_mapped:=by
  refine pure_of_body Try.func34 rfl ?_
  have hres:Try.f34.results.toList=[.tmp 4]:=rfl
  rintro⟨(xs:List Int),(vs:List Int),_⟩ hc hL
  simp only[K_mapped,go_sem] at hL
  obtain⟨lxs,lvs⟩:=hL
  simp only[K_mapped,St.init,St.initG,Try.ntmps34,go_sem] 
  obtain⟨h1,h2⟩:=(show xs.length≤1000∧idxs vs.length xs=true from hc)
  refine oS fun _ hK1=>?_
  refine oW T_l03Zeros_ok ?_
  simp only[go_sem]
  refine hK1 _ ?_
  refine oS fun _ hK2=>?_
  refine oW T_l03Zeros_ok ?_
  simp only[List.nodup_nil,go_sem]
  repeat(with_reducible refine oA ?_)
  refine hK2 _ ?_
  refine oS fun _ hK3=>?_
  refine oS fun _ hK4=>?_
  refine oW T_l03Zeros_ok ?_
  simp only[go_sem]
  refine hK4 _ ?_
  refine AWP_block ?_
  refine AWP_loop_k (ι:={ k:Nat // k≤xs.length }) (fun k=>⟨[zz,.c (.rd [] 2 (.int .i64) (vs)),zz,zz,zz,.c (.ow 9001),zz,zz,zz,.c (.rd [] 2 (.int .i64) (xs)),.c (.sc (.int .i64 (xs.length))),.c (.sc (.int .i64 (k.1))),zz,zz,zz,zz,zz,zz,zz,zz,zz,zz,zz,zz],[(9001,.row 2 (.int .i64) ((xs.take k.1).map (fun q=>vs.getD (Int.toNat q) 0)) [])]⟩) (fun k=>xs.length - k.1) ⟨0,by simp⟩ ?_ ?_
  ·
   refine oK ?_
   simp (maxSteps:=2000000)only[go_sem]
   all_goals first|rfl|((repeat' refine And.intro ?_ ?_)<;>first|rfl|simp)
  rintro⟨k,hk⟩ K5 hL5
  have hml:((xs.take k).map (fun q=>vs.getD (Int.toNat q) 0)).length≤1000:=by rw[List.length_map,List.length_take];omega
  have hix:k < xs.length→0≤xs.getD k 0∧xs.getD k 0≤vs.length - 1:=fun h=>idxs_at h2 (getD_mem h)
  refine oS fun _ hK6=>?_
  refine oW T_l03Zeros_ok ?_
  simp only[go_sem]
  refine hK6 _ ?_
  refine oS fun _ hK7=>?_
  refine oC rfl ?_ ?_
  ·
   intro c0
   obtain⟨hi1,hi2⟩:=hix (by omega)
   refine AWP_skip ?_
   simp only[go_sem]
   refine hK7 _ ?_
   refine oS fun _ hK8=>?_
   refine AWP_block ?_
   refine oS fun _ hK9=>?_
   refine oW T_l03Zeros_ok ?_
   simp only[go_sem]
   repeat(with_reducible refine oA ?_)
   refine hK9 _ ?_
   refine oW T_l03Zeros_ok ?_
   simp (maxSteps:=2000000)only[go_sem]
   repeat(with_reducible refine oA ?_)
   refine hK8 _ ?_
   refine oW T_l03Zeros_ok ?_
   simp only[go_sem]
   refine hL5 ⟨k+1,by omega⟩ _ (oK ?_) ?_
   ·
    simp (maxSteps:=2000000)only[go_sem]
    all_goals((repeat' refine And.intro ?_ ?_)<;>first|rfl|exact wk (by omega)|exact map_next3 (0:Int) (by omega))
   ·
    first|(simp only[];omega)|omega|(simp;omega)
  intro c0
  refine AWP_exit ?_
  simp only[go_sem]
  refine hK3 _ ?_
  refine oS fun _ hK10=>?_
  refine oW T_l03Zeros_ok ?_
  simp only[go_sem]
  refine hK10 _ ?_
  refine AWP_ret ?_
  simp only[hres,go_sem]
  first|exact oF|(refine⟨?_,oF⟩;exact congrArg (List.map _) (List.take_of_length_le (by omega)))
def T_mapped:Tab:=fun f=>if f=34 then some (.p K_mapped) else T_l03Zeros f
theorem T_mapped_ok:TabOk Try.prog T_mapped:=tabP mapped_ok (fnOk_of Try.func34 rfl (by decide)) T_l03Zeros_ok
attribute [go_sem] T_mapped K_mapped
def K_l07Map:Con:=⟨[.val ((.row 2 (.int .i64))),.val ((.row 2 (.int .i64)))],[⟨(.row 2 (.int .i64)),true⟩],fun x=>x.1.length≤1000∧idxs x.2.1.length x.1=true,fun x=>x.1.map (fun q=>x.2.1.getD (Int.toNat q) 0)⟩
theorem l07Map_ok:PureT Try.prog 48 K_l07Map:=by
  refine pure_of_body Try.func48 rfl ?_
  have hres:Try.f48.results.toList=[.tmp 4]:=rfl
  rintro⟨(xs:List Int),(vs:List Int),_⟩ hc hL
  simp only[K_l07Map,go_sem] at hL
  obtain⟨lxs,lvs⟩:=hL
  simp only[K_l07Map,St.init,St.initG,Try.ntmps48,go_sem] 
  obtain⟨h1,h2⟩:=(show xs.length≤1000∧idxs vs.length xs=true from hc)
  refine oS fun _ hK1=>?_
  refine oW T_mapped_ok ?_
  simp only[go_sem]
  refine hK1 _ ?_
  refine oS fun _ hK2=>?_
  refine oW T_mapped_ok ?_
  simp only[List.nodup_nil,go_sem]
  repeat(with_reducible refine oA ?_)
  refine hK2 _ ?_
  refine oS fun _ hK3=>?_
  refine oS fun _ hK4=>?_
  refine oW T_mapped_ok ?_
  simp only[go_sem]
  refine hK4 _ ?_
  refine AWP_block ?_
  refine AWP_loop_k (ι:={ k:Nat // k≤xs.length }) (fun k=>⟨[.c (.rd [] 2 (.int .i64) (xs)),.c (.rd [] 2 (.int .i64) (vs)),zz,zz,zz,.c (.ow 9001),.c (.sc (.int .i64 (k.1))),zz,zz,zz,zz,zz,zz,zz,zz,zz,zz,zz,zz,zz,zz,zz,zz,zz,zz],[(9001,.row 2 (.int .i64) ((xs.take k.1).map (fun q=>vs.getD (Int.toNat q) 0)) [])]⟩) (fun k=>xs.length - k.1) ⟨0,by simp⟩ ?_ ?_
  ·
   refine oK ?_
   simp (maxSteps:=2000000)only[go_sem]
   all_goals first|rfl|((repeat' refine And.intro ?_ ?_)<;>first|rfl|simp)
  rintro⟨k,hk⟩ K5 hL5
  have hml:((xs.take k).map (fun q=>vs.getD (Int.toNat q) 0)).length≤1000:=by rw[List.length_map,List.length_take];omega
  have hix:k < xs.length→0≤xs.getD k 0∧xs.getD k 0≤vs.length - 1:=fun h=>idxs_at h2 (getD_mem h)
  refine oS fun _ hK6=>?_
  refine oS fun _ hK7=>?_
  refine oW T_mapped_ok ?_
  simp only[go_sem]
  refine hK7 _ ?_
  refine oC rfl ?_ ?_
  ·
   intro c0
   obtain⟨hi1,hi2⟩:=hix (by omega)
   refine AWP_skip ?_
   simp only[go_sem]
   refine hK6 _ ?_
   refine oS fun _ hK8=>?_
   refine AWP_block ?_
   refine oW T_mapped_ok ?_
   simp (maxSteps:=2000000)only[go_sem]
   repeat(with_reducible refine oA ?_)
   refine hK8 _ ?_
   refine oW T_mapped_ok ?_
   simp only[go_sem]
   refine hL5 ⟨k+1,by omega⟩ _ (oK ?_) ?_
   ·
    simp (maxSteps:=2000000)only[go_sem]
    all_goals((repeat' refine And.intro ?_ ?_)<;>first|rfl|exact wk (by omega)|exact map_next3 (0:Int) (by omega))
   ·
    first|(simp only[];omega)|omega|(simp;omega)
  intro c0
  refine AWP_exit ?_
  simp only[go_sem]
  refine hK3 _ ?_
  refine oS fun _ hK9=>?_
  refine oW T_mapped_ok ?_
  simp only[go_sem]
  refine hK9 _ ?_
  refine AWP_ret ?_
  simp only[hres,go_sem]
  first|exact oF|(refine⟨?_,oF⟩;exact congrArg (List.map _) (List.take_of_length_le (by omega)))
def T_l07Map:Tab:=fun f=>if f=48 then some (.p K_l07Map) else T_mapped f
theorem T_l07Map_ok:TabOk Try.prog T_l07Map:=tabP l07Map_ok (fnOk_of Try.func48 rfl (by decide)) T_mapped_ok
attribute [go_sem] T_l07Map K_l07Map
end Go.Proofs.Ytenjbehedcegdaa
