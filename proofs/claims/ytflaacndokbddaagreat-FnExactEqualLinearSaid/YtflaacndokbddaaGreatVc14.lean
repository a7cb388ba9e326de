/-
  Texts of this claim, joined (part 14). No condition beyond those of the theorems.
-/
import Derived.Test.YtflaacndokbddaaGreatVc09
import Derived.Test.YtflaacndokbddaaGreatVc05
namespace Go.Proofs.YtflaacndokbddaaGreat
open Go.RowKit
set_option linter.unusedSimpArgs false
set_option linter.unusedVariables false
set_option maxRecDepth 100000
set_option maxHeartbeats 1000000
def K_l06Start:Con:=⟨[.ptr (.prod (.int .i64) (.prod (.int .i64) (.prod (.int .i64) (.row 2 (.int .i64)))))],[⟨(.row 2 (.int .i64)),true⟩],fun x=>nodeC x.1,fun x=>startV x.1⟩
theorem l06Start_ok:PureT Tryz.prog 114 K_l06Start:=by
  refine pure_of_body Tryz.func114 rfl ?_
  have hres:Tryz.f114.results.toList=[.tmp 2]:=rfl
  rintro ⟨⟨(kd:Int),(a:Int),(bb:Int),(fr:List Int)⟩,_⟩ hc hL
  simp only[K_l06Start,go_sem] at hL
  simp only[K_l06Start,St.init,St.initG,Tryz.ntmps114,go_sem] 
  obtain ⟨h1,h2,h3,h4⟩:=nodeC_parts (show nodeC (kd,a,bb,fr) from hc)
  refine oS fun _ hK1=>?_
  refine oW T_l07Map_ok ?_
  simp only[go_sem]
  repeat (with_reducible first | refine oA ?_ | refine And.intro (by first | exact inR_iff.2 (by omega) | decide) ?_)
  refine hK1 _ ?_
  refine oS fun _ hK2=>?_
  refine oS fun _ hK3=>?_
  refine oW T_l07Map_ok ?_
  simp only[go_sem]
  repeat (with_reducible first | refine oA ?_ | refine And.intro (by first | exact inR_iff.2 (by omega) | decide) ?_)
  refine hK3 _ ?_
  refine AWP_block ?_
  refine oS fun _ hK4=>?_
  refine oW T_l07Map_ok ?_
  simp only[go_sem]
  repeat (with_reducible first | refine oA ?_ | refine And.intro (by first | exact inR_iff.2 (by omega) | decide) ?_)
  refine hK4 _ ?_
  refine oC rfl ?_ ?_
  ·
   intro c0
   refine oS fun _ hK5=>?_
   refine oW T_l07Map_ok ?_
   simp (maxSteps:=2000000)only[go_sem]
   repeat (with_reducible first | refine oA ?_ | refine And.intro (by first | exact inR_iff.2 (by omega) | decide) ?_)
   refine hK5 _ ?_
   refine AWP_ret ?_
   simp only[hres,go_sem]
   first | exact oF | (refine ⟨?_,oF⟩; first | (have e:kd=6:=(by assumption); subst e; rfl) | (exfalso; omega) | exact (startV_none (by omega) (by omega) (by omega) (by omega) (by omega) (by omega) (by omega)).symm)
  intro c0
  refine oS fun _ hK6=>?_
  refine oW T_l07Map_ok ?_
  simp only[go_sem]
  repeat (with_reducible first | refine oA ?_ | refine And.intro (by first | exact inR_iff.2 (by omega) | decide) ?_)
  refine hK6 _ ?_
  refine oC rfl ?_ ?_
  ·
   intro c1
   refine oS fun _ hK7=>?_
   refine oW T_l07Map_ok ?_
   simp (maxSteps:=2000000)only[go_sem]
   repeat (with_reducible first | refine oA ?_ | refine And.intro (by first | exact inR_iff.2 (by omega) | decide) ?_)
   refine hK7 _ ?_
   refine AWP_ret ?_
   simp only[hres,go_sem]
   first | exact oF | (refine ⟨?_,oF⟩; first | (have e:kd=17:=(by assumption); subst e; rfl) | (exfalso; omega) | exact (startV_none (by omega) (by omega) (by omega) (by omega) (by omega) (by omega) (by omega)).symm)
  intro c1
  refine oS fun _ hK8=>?_
  refine oS fun _ hK9=>?_
  refine oW T_l07Map_ok ?_
  simp only[go_sem]
  repeat (with_reducible first | refine oA ?_ | refine And.intro (by first | exact inR_iff.2 (by omega) | decide) ?_)
  refine hK9 _ ?_
  refine oC rfl ?_ ?_
  ·
   intro c2
   refine AWP_skip ?_
   simp only[go_sem]
   refine hK8 _ ?_
   refine oC rfl ?_ ?_
   ·
    intro c4
    refine oS fun _ hK10=>?_
    refine oW T_l07Map_ok ?_
    simp only[List.nodup_nil,go_sem]
    repeat (with_reducible first | refine oA ?_ | refine And.intro (by first | exact inR_iff.2 (by omega) | decide) ?_)
    refine hK10 _ ?_
    refine AWP_ret ?_
    simp only[hres,go_sem]
    first | exact oF | (refine ⟨?_,oF⟩; first | (have e:kd=7:=(by assumption); subst e; rfl) | (exfalso; omega) | exact (startV_none (by omega) (by omega) (by omega) (by omega) (by omega) (by omega) (by omega)).symm)
   intro c4
   refine oS fun _ hK11=>?_
   refine oS fun _ hK12=>?_
   refine oW T_l07Map_ok ?_
   simp only[go_sem]
   repeat (with_reducible first | refine oA ?_ | refine And.intro (by first | exact inR_iff.2 (by omega) | decide) ?_)
   refine hK12 _ ?_
   refine oC rfl ?_ ?_
   ·
    intro c5
    refine AWP_skip ?_
    simp only[go_sem]
    refine hK11 _ ?_
    refine oC rfl ?_ ?_
    ·
     intro c6
     refine oS fun _ hK13=>?_
     refine oW T_l07Map_ok ?_
     simp (maxSteps:=2000000)only[List.nodup_nil,go_sem]
     repeat (with_reducible first | refine oA ?_ | refine And.intro (by first | exact inR_iff.2 (by omega) | decide) ?_)
     refine hK13 _ ?_
     refine AWP_ret ?_
     simp only[hres,go_sem]
     first | exact oF | (refine ⟨?_,oF⟩; first | (have e:kd=12:=(by assumption); subst e; rfl) | (exfalso; omega) | exact (startV_none (by omega) (by omega) (by omega) (by omega) (by omega) (by omega) (by omega)).symm)
    intro c6
    refine AWP_skip ?_
    simp only[go_sem]
    refine hK2 _ ?_
    refine oS fun _ hK14=>?_
    refine oW T_l07Map_ok ?_
    simp only[List.nodup_nil,go_sem]
    repeat (with_reducible first | refine oA ?_ | refine And.intro (by first | exact inR_iff.2 (by omega) | decide) ?_)
    refine hK14 _ ?_
    refine AWP_ret ?_
    simp only[hres,go_sem]
    first | exact oF | (refine ⟨?_,oF⟩; first | (have e:kd=12:=(by assumption); subst e; rfl) | (exfalso; omega) | exact (startV_none (by omega) (by omega) (by omega) (by omega) (by omega) (by omega) (by omega)).symm)
   intro c5
   refine oW T_l07Map_ok ?_
   simp only[go_sem]
   repeat (with_reducible first | refine oA ?_ | refine And.intro (by first | exact inR_iff.2 (by omega) | decide) ?_)
   refine hK11 _ ?_
   refine oC rfl ?_ ?_
   ·
    intro c6
    refine oS fun _ hK15=>?_
    refine oW T_l07Map_ok ?_
    simp (maxSteps:=2000000)only[List.nodup_nil,go_sem]
    repeat (with_reducible first | refine oA ?_ | refine And.intro (by first | exact inR_iff.2 (by omega) | decide) ?_)
    refine hK15 _ ?_
    refine AWP_ret ?_
    simp only[hres,go_sem]
    first | exact oF | (refine ⟨?_,oF⟩; first | (have e:kd=14:=(by assumption); subst e; rfl) | (exfalso; omega) | exact (startV_none (by omega) (by omega) (by omega) (by omega) (by omega) (by omega) (by omega)).symm)
   intro c6
   refine AWP_skip ?_
   simp only[go_sem]
   refine hK2 _ ?_
   refine oS fun _ hK16=>?_
   refine oW T_l07Map_ok ?_
   simp only[List.nodup_nil,go_sem]
   repeat (with_reducible first | refine oA ?_ | refine And.intro (by first | exact inR_iff.2 (by omega) | decide) ?_)
   refine hK16 _ ?_
   refine AWP_ret ?_
   simp only[hres,go_sem]
   first | exact oF | (refine ⟨?_,oF⟩; first | (have e:kd=7:=(by assumption); subst e; rfl) | (exfalso; omega) | exact (startV_none (by omega) (by omega) (by omega) (by omega) (by omega) (by omega) (by omega)).symm)
  intro c2
  refine oS fun _ hK17=>?_
  refine oW T_l07Map_ok ?_
  simp only[go_sem]
  repeat (with_reducible first | refine oA ?_ | refine And.intro (by first | exact inR_iff.2 (by omega) | decide) ?_)
  refine hK17 _ ?_
  refine oC rfl ?_ ?_
  ·
   intro c3
   refine AWP_skip ?_
   simp only[go_sem]
   refine hK8 _ ?_
   refine oC rfl ?_ ?_
   ·
    intro c4
    refine oS fun _ hK18=>?_
    refine oW T_l07Map_ok ?_
    simp only[List.nodup_nil,go_sem]
    repeat (with_reducible first | refine oA ?_ | refine And.intro (by first | exact inR_iff.2 (by omega) | decide) ?_)
    refine hK18 _ ?_
    refine AWP_ret ?_
    simp only[hres,go_sem]
    first | exact oF | (refine ⟨?_,oF⟩; first | (have e:kd=8:=(by assumption); subst e; rfl) | (exfalso; omega) | exact (startV_none (by omega) (by omega) (by omega) (by omega) (by omega) (by omega) (by omega)).symm)
   intro c4
   refine oS fun _ hK19=>?_
   refine oS fun _ hK20=>?_
   refine oW T_l07Map_ok ?_
   simp only[go_sem]
   repeat (with_reducible first | refine oA ?_ | refine And.intro (by first | exact inR_iff.2 (by omega) | decide) ?_)
   refine hK20 _ ?_
   refine oC rfl ?_ ?_
   ·
    intro c5
    refine AWP_skip ?_
    simp only[go_sem]
    refine hK19 _ ?_
    refine oC rfl ?_ ?_
    ·
     intro c6
     refine oS fun _ hK21=>?_
     refine oW T_l07Map_ok ?_
     simp (maxSteps:=2000000)only[List.nodup_nil,go_sem]
     repeat (with_reducible first | refine oA ?_ | refine And.intro (by first | exact inR_iff.2 (by omega) | decide) ?_)
     refine hK21 _ ?_
     refine AWP_ret ?_
     simp only[hres,go_sem]
     first | exact oF | (refine ⟨?_,oF⟩; first | (have e:kd=12:=(by assumption); subst e; rfl) | (exfalso; omega) | exact (startV_none (by omega) (by omega) (by omega) (by omega) (by omega) (by omega) (by omega)).symm)
    intro c6
    refine AWP_skip ?_
    simp only[go_sem]
    refine hK2 _ ?_
    refine oS fun _ hK22=>?_
    refine oW T_l07Map_ok ?_
    simp only[List.nodup_nil,go_sem]
    repeat (with_reducible first | refine oA ?_ | refine And.intro (by first | exact inR_iff.2 (by omega) | decide) ?_)
    refine hK22 _ ?_
    refine AWP_ret ?_
    simp only[hres,go_sem]
    first | exact oF | (refine ⟨?_,oF⟩; first | (have e:kd=12:=(by assumption); subst e; rfl) | (exfalso; omega) | exact (startV_none (by omega) (by omega) (by omega) (by omega) (by omega) (by omega) (by omega)).symm)
   intro c5
   refine oW T_l07Map_ok ?_
   simp only[go_sem]
   repeat (with_reducible first | refine oA ?_ | refine And.intro (by first | exact inR_iff.2 (by omega) | decide) ?_)
   refine hK19 _ ?_
   refine oC rfl ?_ ?_
   ·
    intro c6
    refine oS fun _ hK23=>?_
    refine oW T_l07Map_ok ?_
    simp (maxSteps:=2000000)only[List.nodup_nil,go_sem]
    repeat (with_reducible first | refine oA ?_ | refine And.intro (by first | exact inR_iff.2 (by omega) | decide) ?_)
    refine hK23 _ ?_
    refine AWP_ret ?_
    simp only[hres,go_sem]
    first | exact oF | (refine ⟨?_,oF⟩; first | (have e:kd=14:=(by assumption); subst e; rfl) | (exfalso; omega) | exact (startV_none (by omega) (by omega) (by omega) (by omega) (by omega) (by omega) (by omega)).symm)
   intro c6
   refine AWP_skip ?_
   simp only[go_sem]
   refine hK2 _ ?_
   refine oS fun _ hK24=>?_
   refine oW T_l07Map_ok ?_
   simp only[List.nodup_nil,go_sem]
   repeat (with_reducible first | refine oA ?_ | refine And.intro (by first | exact inR_iff.2 (by omega) | decide) ?_)
   refine hK24 _ ?_
   refine AWP_ret ?_
   simp only[hres,go_sem]
   first | exact oF | (refine ⟨?_,oF⟩; first | (have e:kd=8:=(by assumption); subst e; rfl) | (exfalso; omega) | exact (startV_none (by omega) (by omega) (by omega) (by omega) (by omega) (by omega) (by omega)).symm)
  intro c3
  refine oW T_l07Map_ok ?_
  simp only[go_sem]
  repeat (with_reducible first | refine oA ?_ | refine And.intro (by first | exact inR_iff.2 (by omega) | decide) ?_)
  refine hK8 _ ?_
  refine oC rfl ?_ ?_
  ·
   intro c4
   refine oS fun _ hK25=>?_
   refine oW T_l07Map_ok ?_
   simp only[List.nodup_nil,go_sem]
   repeat (with_reducible first | refine oA ?_ | refine And.intro (by first | exact inR_iff.2 (by omega) | decide) ?_)
   refine hK25 _ ?_
   refine AWP_ret ?_
   simp only[hres,go_sem]
   first | exact oF | (refine ⟨?_,oF⟩; first | (have e:kd=16:=(by assumption); subst e; rfl) | (exfalso; omega) | exact (startV_none (by omega) (by omega) (by omega) (by omega) (by omega) (by omega) (by omega)).symm)
  intro c4
  refine oS fun _ hK26=>?_
  refine oS fun _ hK27=>?_
  refine oW T_l07Map_ok ?_
  simp only[go_sem]
  repeat (with_reducible first | refine oA ?_ | refine And.intro (by first | exact inR_iff.2 (by omega) | decide) ?_)
  refine hK27 _ ?_
  refine oC rfl ?_ ?_
  ·
   intro c5
   refine AWP_skip ?_
   simp only[go_sem]
   refine hK26 _ ?_
   refine oC rfl ?_ ?_
   ·
    intro c6
    refine oS fun _ hK28=>?_
    refine oW T_l07Map_ok ?_
    simp (maxSteps:=2000000)only[List.nodup_nil,go_sem]
    repeat (with_reducible first | refine oA ?_ | refine And.intro (by first | exact inR_iff.2 (by omega) | decide) ?_)
    refine hK28 _ ?_
    refine AWP_ret ?_
    simp only[hres,go_sem]
    first | exact oF | (refine ⟨?_,oF⟩; first | (have e:kd=12:=(by assumption); subst e; rfl) | (exfalso; omega) | exact (startV_none (by omega) (by omega) (by omega) (by omega) (by omega) (by omega) (by omega)).symm)
   intro c6
   refine AWP_skip ?_
   simp only[go_sem]
   refine hK2 _ ?_
   refine oS fun _ hK29=>?_
   refine oW T_l07Map_ok ?_
   simp only[List.nodup_nil,go_sem]
   repeat (with_reducible first | refine oA ?_ | refine And.intro (by first | exact inR_iff.2 (by omega) | decide) ?_)
   refine hK29 _ ?_
   refine AWP_ret ?_
   simp only[hres,go_sem]
   first | exact oF | (refine ⟨?_,oF⟩; first | (have e:kd=12:=(by assumption); subst e; rfl) | (exfalso; omega) | exact (startV_none (by omega) (by omega) (by omega) (by omega) (by omega) (by omega) (by omega)).symm)
  intro c5
  refine oW T_l07Map_ok ?_
  simp only[go_sem]
  repeat (with_reducible first | refine oA ?_ | refine And.intro (by first | exact inR_iff.2 (by omega) | decide) ?_)
  refine hK26 _ ?_
  refine oC rfl ?_ ?_
  ·
   intro c6
   refine oS fun _ hK30=>?_
   refine oW T_l07Map_ok ?_
   simp (maxSteps:=2000000)only[List.nodup_nil,go_sem]
   repeat (with_reducible first | refine oA ?_ | refine And.intro (by first | exact inR_iff.2 (by omega) | decide) ?_)
   refine hK30 _ ?_
   refine AWP_ret ?_
   simp only[hres,go_sem]
   first | exact oF | (refine ⟨?_,oF⟩; first | (have e:kd=14:=(by assumption); subst e; rfl) | (exfalso; omega) | exact (startV_none (by omega) (by omega) (by omega) (by omega) (by omega) (by omega) (by omega)).symm)
  intro c6
  refine AWP_skip ?_
  simp only[go_sem]
  refine hK2 _ ?_
  refine oS fun _ hK31=>?_
  refine oW T_l07Map_ok ?_
  simp only[List.nodup_nil,go_sem]
  repeat (with_reducible first | refine oA ?_ | refine And.intro (by first | exact inR_iff.2 (by omega) | decide) ?_)
  refine hK31 _ ?_
  refine AWP_ret ?_
  simp only[hres,go_sem]
  first | exact oF | (refine ⟨?_,oF⟩; first | (have e:kd=0:=(by assumption); subst e; rfl) | (exfalso; omega) | exact (startV_none (by omega) (by omega) (by omega) (by omega) (by omega) (by omega) (by omega)).symm)
def T_l06Start:Tab:=fun f=>if f=114 then some (.p K_l06Start) else T_l07Map f
theorem T_l06Start_ok:TabOk Tryz.prog T_l06Start:=tabP l06Start_ok (fnOk_of Tryz.func114 rfl (by decide)) T_l07Map_ok
attribute [go_sem] T_l06Start K_l06Start
theorem getD_out {xs:List Int} {i:Nat} (h:xs.length≤i):xs.getD i 0=0:=by
 rw [List.getD_eq_getElem?_getD,List.getElem?_eq_none h]; rfl
def frameAt (ins:List (List Int)) (i:Int):List Int:=ins.map fun a=>a.getD i.toNat 0
def addOut (outs:List (List Int)) (xs:List Int):List (List Int):=List.zipWith (fun l x=>l++[x]) outs xs
def blockSt (p:PatchD) (ins:List (List Int)) (frm:Int):Nat→List (List Int) × List (List Int)→List (List Int) × List (List Int)
 | 0,st=>st
 | k+1,st=>(nextL p (blockSt p ins frm k st).1 (frameAt ins (frm+k)) (valsL p (blockSt p ins frm k st).1 (frameAt ins (frm+k))),
     addOut (blockSt p ins frm k st).2 (outsL p (valsL p (blockSt p ins frm k st).1 (frameAt ins (frm+k)))))
def insOk (p:PatchD) (ins:List (List Int)):Prop:=(ins.length:Int)=p.1∧∀ a∈ins,a.length≤4000∧smps a=true
theorem frameAt_ok {p:PatchD} {ins:List (List Int)} (h:insOk p ins) (i:Int):((frameAt ins i).length:Int)=p.1∧smps (frameAt ins i)=true:=by
 refine ⟨by simp only[frameAt,List.length_map]; exact h.1,smps_iff.2 fun x hx=>?_⟩
 obtain ⟨a,ha,rfl⟩:=List.mem_map.1 hx
 exact smps_at (h.2 a ha).2 _
theorem addOut_len {outs:List (List Int)} {xs:List Int} (h:outs.length=xs.length):(addOut outs xs).length=xs.length:=by simp [addOut,h]
theorem outsL_len (p:PatchD) (v:List Int):(outsL p v).length=p.2.2.2.length:=by simp [outsL]
theorem block_ok {p:PatchD} {ins:List (List Int)} {frm:Int} {s o:List (List Int)} (h:formedB p=true) (hs:StOk p s) (hi:insOk p ins) (ho:o.length=p.2.2.2.length) :∀k,StOk p (blockSt p ins frm k (s,o)).1∧(blockSt p ins frm k (s,o)).2.length=p.2.2.2.length:=by
 intro k
 induction k with
 | zero=>exact ⟨hs,ho⟩
 | succ k ih =>
   obtain ⟨a1,a2⟩:=ih
   obtain ⟨_,f2⟩:=frameAt_ok hi (frm+k)
   exact ⟨nextL_ok h a1 f2 (valsL_ok' h a1 f2),by simp only[blockSt]; rw [addOut_len (by rw [outsL_len]; exact a2),outsL_len]⟩
theorem addOut_at {outs:List (List Int)} {xs:List Int} {i:Nat} (h:i < outs.length) (h2:i < xs.length):(addOut outs xs).getD i []=outs.getD i []++[xs.getD i 0]:=by
 have e:(List.zipWith (fun (l:List Int) (x:Int)=>l++[x]) outs xs)[i]?=some (outs[i]++[xs[i]]):=by
  rw [List.getElem?_eq_getElem (by simp; omega),List.getElem_zipWith]
 have e1:outs.getD i []=outs[i]:=by simp [List.getD,h]
 have e2:xs.getD i 0=xs[i]:=by simp [List.getD,h2]
 rw [e1,e2,addOut,List.getD_eq_getElem?_getD,e]; rfl
theorem block_len {p:PatchD} {ins:List (List Int)} {frm:Int} {s o:List (List Int)} {m:Nat} (h:formedB p=true) (hs:StOk p s) (hi:insOk p ins) (ho:o.length=p.2.2.2.length) (hm :∀i,i < o.length→(o.getD i []).length=m) :
 ∀ k i,i < p.2.2.2.length→((blockSt p ins frm k (s,o)).2.getD i []).length=m+k:=by
 intro k
 induction k with
 | zero=>intro i hi'; exact hm i (by omega)
 | succ k ih =>
   intro i hi'
   simp only[blockSt]
   have hb:=(block_ok (frm:=frm) h hs hi ho k).2
   rw [addOut_at (by omega) (by rw [outsL_len]; omega),List.length_append,ih i hi']
   simp; omega
def lastV (p:PatchD) (ins:List (List Int)) (frm:Int) (vals:List Int) (st:List (List Int) × List (List Int)):Nat→List Int
 | 0=>vals
 | k+1=>valsL p (blockSt p ins frm k st).1 (frameAt ins (frm+k))
def lastF (p:PatchD) (ins:List (List Int)) (frm:Int):Nat→List Int
 | 0=>List.replicate p.1.toNat 0
 | k+1=>frameAt ins (frm+k)
theorem lastV_ok {p:PatchD} {ins:List (List Int)} {frm:Int} {vals:List Int} {s o:List (List Int)} (h:formedB p=true) (hs:StOk p s) (hi:insOk p ins) (ho:o.length=p.2.2.2.length) (hv:valsOk p vals) (k:Nat):valsOk p (lastV p ins frm vals (s,o) k):=by
 cases k with
 | zero=>exact hv
 | succ k =>
   obtain ⟨_,f2⟩:=frameAt_ok hi (frm+k)
   exact valsL_ok' h (block_ok (frm:=frm) h hs hi ho k).1 f2
theorem lastF_len {p:PatchD} {ins:List (List Int)} {frm:Int} (hi:insOk p ins) (k:Nat):(lastF p ins frm k).length=ins.length:=by
 cases k with
 | zero=>have:=hi.1; simp only[lastF,List.length_replicate]; omega
 | succ k=>simp [lastF,frameAt]
def blend {α:Type} (A B:List α) (m:Nat):List α:=A.take m++B.drop m
section
variable {α:Type} {A B:List α} {m:Nat}
theorem blend_len (h:A.length=B.length) (hm:m≤A.length):(blend A B m).length=A.length:=by
 simp only[blend,List.length_append,List.length_take,List.length_drop]; omega
theorem blend_at (d:α) (h:A.length=B.length) (hm:m < A.length):(blend A B m).getD m d=B.getD m d:=by
 unfold blend
 rw [List.getD_eq_getElem?_getD,List.getD_eq_getElem?_getD,List.getElem?_append_right (by rw [List.length_take]; omega),List.getElem?_drop,List.length_take]
 congr 2; omega
theorem blend_set (d:α) (h:A.length=B.length) (hm:m < A.length):(blend A B m).set m (A.getD m d)=blend A B (m+1):=by
 unfold blend
 rw [take_next (d:=d) hm,List.set_append_right _ _ (by rw [List.length_take]; omega),List.length_take,(by omega:m - min m A.length=0),List.drop_eq_getElem_cons (show m < B.length by omega),List.set_cons_zero,List.append_assoc]
 rfl
theorem blend_zero:blend A B 0=B:=by simp [blend]
theorem blend_all (h:A.length=B.length) (hm:A.length≤m):blend A B m=A:=by
 unfold blend; rw [List.take_of_length_le hm,List.drop_of_length_le (by omega),List.append_nil]
end
theorem frameAt_at {ins:List (List Int)} {i:Int} {m:Nat} (h:m < ins.length):(frameAt ins i).getD m 0=(ins.getD m []).getD i.toNat 0:=by simp [frameAt,List.getD,h]
def renderL (p:PatchD) (ins:List (List Int)) (n:Nat):List (List Int):=(blockSt p ins 0 n (startL p,List.replicate p.2.2.2.length [])).2
open Go.RowKit
theorem renderL_len {p:PatchD} {ins:List (List Int)} (hF:formedB p=true) (hi:insOk p ins) (n:Nat):(renderL p ins n).length=p.2.2.2.length:=(block_ok (o:=List.replicate p.2.2.2.length []) hF (startL_ok hF) hi (by simp) n).2
abbrev SrcD:=List Int × Int × Int
abbrev DM (α:Type):=SrcD→α × SrcD
def srcOk (n:Nat) (s:SrcD):Prop:=(∀ b∈s.1,0≤b∧b≤255)∧0≤s.2.1∧s.2.1+n≤4611686018427387904
theorem srcOk.le {n m:Nat} {s:SrcD} (h:srcOk n s) (k:m≤n):srcOk m s:=⟨h.1,h.2.1,by have:=h.2.2; omega⟩
section
variable {α β:Type}
def Cost (c:Nat) (m:DM α):Prop:=∀ n s,srcOk (n+c) s→srcOk n (m s).2
theorem Cost.at {c:Nat} {m:DM α} (h:Cost c m) {n:Nat} {s s':SrcD} {x:α} (hs:srcOk n s) (hc:c≤n) (e:m s=(x,s')):srcOk (n - c) s':=by
 have:=h (n - c) s (by rw [Nat.sub_add_cancel hc]; exact hs)
 rw [e] at this; exact this
theorem Cost.le {c d:Nat} {m:DM α} (h:Cost c m) (k:c≤d):Cost d m:=fun n s hs=>h n s (hs.le (by omega))
theorem Cost.pure (x:α):Cost 0 (fun s=>(x,s):DM α):=fun n s hs=>hs
end
section
variable {α:Type}
end
end Go.Proofs.YtflaacndokbddaaGreat
