/-
  Texts of this claim, joined (part 34). No condition beyond those of the theorems.
-/
import Derived.Test.YtflaacndokbddaaGreatVb16
import Derived.Test.YtflaacndokbddaaGreatVb32
import Derived.Test.YtflaacndokbddaaGreatVb12
namespace Go.Proofs.YtflaacndokbddaaGreat
open Go.RowKit
set_option linter.unusedSimpArgs false
set_option linter.unusedVariables false
set_option maxRecDepth 100000
set_option maxHeartbeats 1000000
def K_start:Con:=⟨[.val ((.prod (.int .i64) (.prod (.int .i64) (.prod (.int .i64) (.row 2 (.int .i64))))))],[⟨(.row 2 (.int .i64)),true⟩],fun x=>nodeC x.1,fun x=>startV x.1⟩
theorem start_ok:PureT Tryz.prog 144 K_start:=by
  refine pure_of_body Tryz.func144 rfl ?_
  have hres:Tryz.f144.results.toList=[.tmp 2]:=rfl
  rintro ⟨⟨(kd:Int),(a:Int),(bb:Int),(fr:List Int)⟩,_⟩ hc hL
  simp only [K_start,go_sem] at hL
  simp only [K_start,St.init,St.initG,Tryz.ntmps144,go_sem] 
  obtain ⟨h1,h2,h3,h4⟩:=nodeC_parts (show nodeC (kd,a,bb,fr) from hc)
  refine oS fun K1 hK1=>?_
  refine oW T_l07Map_ok ?_
  simp only [go_sem]
  repeat (with_reducible first | refine oA ?_ | refine And.intro (by first | exact inR_iff.2 (by omega) | decide) ?_)
  refine hK1 _ ?_
  refine oS fun K2 hK2=>?_
  refine oS fun K3 hK3=>?_
  refine oW T_l07Map_ok ?_
  simp only [go_sem]
  repeat (with_reducible first | refine oA ?_ | refine And.intro (by first | exact inR_iff.2 (by omega) | decide) ?_)
  refine hK3 _ ?_
  refine AWP_block ?_
  refine oS fun K4 hK4=>?_
  refine oW T_l07Map_ok ?_
  simp only [go_sem]
  repeat (with_reducible first | refine oA ?_ | refine And.intro (by first | exact inR_iff.2 (by omega) | decide) ?_)
  refine hK4 _ ?_
  refine oC rfl ?_ ?_
  ·
   intro c0
   refine oS fun K5 hK5=>?_
   refine oW T_l07Map_ok ?_
   simp only [go_sem]
   repeat (with_reducible first | refine oA ?_ | refine And.intro (by first | exact inR_iff.2 (by omega) | decide) ?_)
   refine hK5 _ ?_
   refine AWP_ret ?_
   simp only [hres,go_sem]
   first | exact oF | (refine ⟨?_,oF⟩; first | (have e:kd=6:=(by assumption); subst e; rfl) | (exfalso; omega) | exact (startV_none (by omega) (by omega) (by omega) (by omega) (by omega) (by omega) (by omega)).symm)
  intro c0
  refine oS fun K6 hK6=>?_
  refine oW T_l07Map_ok ?_
  simp only [go_sem]
  repeat (with_reducible first | refine oA ?_ | refine And.intro (by first | exact inR_iff.2 (by omega) | decide) ?_)
  refine hK6 _ ?_
  refine oC rfl ?_ ?_
  ·
   intro c1
   refine oS fun K7 hK7=>?_
   refine oW T_l07Map_ok ?_
   simp only [go_sem]
   repeat (with_reducible first | refine oA ?_ | refine And.intro (by first | exact inR_iff.2 (by omega) | decide) ?_)
   refine hK7 _ ?_
   refine AWP_ret ?_
   simp only [hres,go_sem]
   first | exact oF | (refine ⟨?_,oF⟩; first | (have e:kd=17:=(by assumption); subst e; rfl) | (exfalso; omega) | exact (startV_none (by omega) (by omega) (by omega) (by omega) (by omega) (by omega) (by omega)).symm)
  intro c1
  refine oS fun K8 hK8=>?_
  refine oS fun K9 hK9=>?_
  refine oW T_l07Map_ok ?_
  simp only [go_sem]
  repeat (with_reducible first | refine oA ?_ | refine And.intro (by first | exact inR_iff.2 (by omega) | decide) ?_)
  refine hK9 _ ?_
  refine oC rfl ?_ ?_
  ·
   intro c2
   refine AWP_skip ?_
   simp only [go_sem]
   refine hK8 _ ?_
   refine oC rfl ?_ ?_
   ·
    intro c4
    refine oS fun K10 hK10=>?_
    refine oW T_l07Map_ok ?_
    simp only [go_sem]
    repeat (with_reducible first | refine oA ?_ | refine And.intro (by first | exact inR_iff.2 (by omega) | decide) ?_)
    refine hK10 _ ?_
    refine AWP_ret ?_
    simp only [hres,go_sem]
    first | exact oF | (refine ⟨?_,oF⟩; first | (have e:kd=7:=(by assumption); subst e; rfl) | (exfalso; omega) | exact (startV_none (by omega) (by omega) (by omega) (by omega) (by omega) (by omega) (by omega)).symm)
   intro c4
   refine oS fun K11 hK11=>?_
   refine oS fun K12 hK12=>?_
   refine oW T_l07Map_ok ?_
   simp only [go_sem]
   repeat (with_reducible first | refine oA ?_ | refine And.intro (by first | exact inR_iff.2 (by omega) | decide) ?_)
   refine hK12 _ ?_
   refine oC rfl ?_ ?_
   ·
    intro c5
    refine AWP_skip ?_
    simp only [go_sem]
    refine hK11 _ ?_
    refine oC rfl ?_ ?_
    ·
     intro c6
     refine oS fun K13 hK13=>?_
     refine oW T_l07Map_ok ?_
     simp only [List.nodup_nil,go_sem]
     repeat (with_reducible first | refine oA ?_ | refine And.intro (by first | exact inR_iff.2 (by omega) | decide) ?_)
     refine hK13 _ ?_
     refine AWP_ret ?_
     simp only [hres,go_sem]
     first | exact oF | (refine ⟨?_,oF⟩; first | (have e:kd=12:=(by assumption); subst e; rfl) | (exfalso; omega) | exact (startV_none (by omega) (by omega) (by omega) (by omega) (by omega) (by omega) (by omega)).symm)
    intro c6
    refine AWP_skip ?_
    simp only [go_sem]
    refine hK2 _ ?_
    refine oS fun K14 hK14=>?_
    refine oW T_l07Map_ok ?_
    simp only [go_sem]
    repeat (with_reducible first | refine oA ?_ | refine And.intro (by first | exact inR_iff.2 (by omega) | decide) ?_)
    refine hK14 _ ?_
    refine AWP_ret ?_
    simp only [hres,go_sem]
    first | exact oF | (refine ⟨?_,oF⟩; first | (have e:kd=12:=(by assumption); subst e; rfl) | (exfalso; omega) | exact (startV_none (by omega) (by omega) (by omega) (by omega) (by omega) (by omega) (by omega)).symm)
   intro c5
   refine oW T_l07Map_ok ?_
   simp only [go_sem]
   repeat (with_reducible first | refine oA ?_ | refine And.intro (by first | exact inR_iff.2 (by omega) | decide) ?_)
   refine hK11 _ ?_
   refine oC rfl ?_ ?_
   ·
    intro c6
    refine oS fun K15 hK15=>?_
    refine oW T_l07Map_ok ?_
    simp only [List.nodup_nil,go_sem]
    repeat (with_reducible first | refine oA ?_ | refine And.intro (by first | exact inR_iff.2 (by omega) | decide) ?_)
    refine hK15 _ ?_
    refine AWP_ret ?_
    simp only [hres,go_sem]
    first | exact oF | (refine ⟨?_,oF⟩; first | (have e:kd=14:=(by assumption); subst e; rfl) | (exfalso; omega) | exact (startV_none (by omega) (by omega) (by omega) (by omega) (by omega) (by omega) (by omega)).symm)
   intro c6
   refine AWP_skip ?_
   simp only [go_sem]
   refine hK2 _ ?_
   refine oS fun K16 hK16=>?_
   refine oW T_l07Map_ok ?_
   simp only [go_sem]
   repeat (with_reducible first | refine oA ?_ | refine And.intro (by first | exact inR_iff.2 (by omega) | decide) ?_)
   refine hK16 _ ?_
   refine AWP_ret ?_
   simp only [hres,go_sem]
   first | exact oF | (refine ⟨?_,oF⟩; first | (have e:kd=7:=(by assumption); subst e; rfl) | (exfalso; omega) | exact (startV_none (by omega) (by omega) (by omega) (by omega) (by omega) (by omega) (by omega)).symm)
  intro c2
  refine oS fun K17 hK17=>?_
  refine oW T_l07Map_ok ?_
  simp only [go_sem]
  repeat (with_reducible first | refine oA ?_ | refine And.intro (by first | exact inR_iff.2 (by omega) | decide) ?_)
  refine hK17 _ ?_
  refine oC rfl ?_ ?_
  ·
   intro c3
   refine AWP_skip ?_
   simp only [go_sem]
   refine hK8 _ ?_
   refine oC rfl ?_ ?_
   ·
    intro c4
    refine oS fun K18 hK18=>?_
    refine oW T_l07Map_ok ?_
    simp only [go_sem]
    repeat (with_reducible first | refine oA ?_ | refine And.intro (by first | exact inR_iff.2 (by omega) | decide) ?_)
    refine hK18 _ ?_
    refine AWP_ret ?_
    simp only [hres,go_sem]
    first | exact oF | (refine ⟨?_,oF⟩; first | (have e:kd=8:=(by assumption); subst e; rfl) | (exfalso; omega) | exact (startV_none (by omega) (by omega) (by omega) (by omega) (by omega) (by omega) (by omega)).symm)
   intro c4
   refine oS fun K19 hK19=>?_
   refine oS fun K20 hK20=>?_
   refine oW T_l07Map_ok ?_
   simp only [go_sem]
   repeat (with_reducible first | refine oA ?_ | refine And.intro (by first | exact inR_iff.2 (by omega) | decide) ?_)
   refine hK20 _ ?_
   refine oC rfl ?_ ?_
   ·
    intro c5
    refine AWP_skip ?_
    simp only [go_sem]
    refine hK19 _ ?_
    refine oC rfl ?_ ?_
    ·
     intro c6
     refine oS fun K21 hK21=>?_
     refine oW T_l07Map_ok ?_
     simp only [List.nodup_nil,go_sem]
     repeat (with_reducible first | refine oA ?_ | refine And.intro (by first | exact inR_iff.2 (by omega) | decide) ?_)
     refine hK21 _ ?_
     refine AWP_ret ?_
     simp only [hres,go_sem]
     first | exact oF | (refine ⟨?_,oF⟩; first | (have e:kd=12:=(by assumption); subst e; rfl) | (exfalso; omega) | exact (startV_none (by omega) (by omega) (by omega) (by omega) (by omega) (by omega) (by omega)).symm)
    intro c6
    refine AWP_skip ?_
    simp only [go_sem]
    refine hK2 _ ?_
    refine oS fun K22 hK22=>?_
    refine oW T_l07Map_ok ?_
    simp only [go_sem]
    repeat (with_reducible first | refine oA ?_ | refine And.intro (by first | exact inR_iff.2 (by omega) | decide) ?_)
    refine hK22 _ ?_
    refine AWP_ret ?_
    simp only [hres,go_sem]
    first | exact oF | (refine ⟨?_,oF⟩; first | (have e:kd=12:=(by assumption); subst e; rfl) | (exfalso; omega) | exact (startV_none (by omega) (by omega) (by omega) (by omega) (by omega) (by omega) (by omega)).symm)
   intro c5
   refine oW T_l07Map_ok ?_
   simp only [go_sem]
   repeat (with_reducible first | refine oA ?_ | refine And.intro (by first | exact inR_iff.2 (by omega) | decide) ?_)
   refine hK19 _ ?_
   refine oC rfl ?_ ?_
   ·
    intro c6
    refine oS fun K23 hK23=>?_
    refine oW T_l07Map_ok ?_
    simp only [List.nodup_nil,go_sem]
    repeat (with_reducible first | refine oA ?_ | refine And.intro (by first | exact inR_iff.2 (by omega) | decide) ?_)
    refine hK23 _ ?_
    refine AWP_ret ?_
    simp only [hres,go_sem]
    first | exact oF | (refine ⟨?_,oF⟩; first | (have e:kd=14:=(by assumption); subst e; rfl) | (exfalso; omega) | exact (startV_none (by omega) (by omega) (by omega) (by omega) (by omega) (by omega) (by omega)).symm)
   intro c6
   refine AWP_skip ?_
   simp only [go_sem]
   refine hK2 _ ?_
   refine oS fun K24 hK24=>?_
   refine oW T_l07Map_ok ?_
   simp only [go_sem]
   repeat (with_reducible first | refine oA ?_ | refine And.intro (by first | exact inR_iff.2 (by omega) | decide) ?_)
   refine hK24 _ ?_
   refine AWP_ret ?_
   simp only [hres,go_sem]
   first | exact oF | (refine ⟨?_,oF⟩; first | (have e:kd=8:=(by assumption); subst e; rfl) | (exfalso; omega) | exact (startV_none (by omega) (by omega) (by omega) (by omega) (by omega) (by omega) (by omega)).symm)
  intro c3
  refine oW T_l07Map_ok ?_
  simp only [go_sem]
  repeat (with_reducible first | refine oA ?_ | refine And.intro (by first | exact inR_iff.2 (by omega) | decide) ?_)
  refine hK8 _ ?_
  refine oC rfl ?_ ?_
  ·
   intro c4
   refine oS fun K25 hK25=>?_
   refine oW T_l07Map_ok ?_
   simp only [go_sem]
   repeat (with_reducible first | refine oA ?_ | refine And.intro (by first | exact inR_iff.2 (by omega) | decide) ?_)
   refine hK25 _ ?_
   refine AWP_ret ?_
   simp only [hres,go_sem]
   first | exact oF | (refine ⟨?_,oF⟩; first | (have e:kd=16:=(by assumption); subst e; rfl) | (exfalso; omega) | exact (startV_none (by omega) (by omega) (by omega) (by omega) (by omega) (by omega) (by omega)).symm)
  intro c4
  refine oS fun K26 hK26=>?_
  refine oS fun K27 hK27=>?_
  refine oW T_l07Map_ok ?_
  simp only [go_sem]
  repeat (with_reducible first | refine oA ?_ | refine And.intro (by first | exact inR_iff.2 (by omega) | decide) ?_)
  refine hK27 _ ?_
  refine oC rfl ?_ ?_
  ·
   intro c5
   refine AWP_skip ?_
   simp only [go_sem]
   refine hK26 _ ?_
   refine oC rfl ?_ ?_
   ·
    intro c6
    refine oS fun K28 hK28=>?_
    refine oW T_l07Map_ok ?_
    simp only [List.nodup_nil,go_sem]
    repeat (with_reducible first | refine oA ?_ | refine And.intro (by first | exact inR_iff.2 (by omega) | decide) ?_)
    refine hK28 _ ?_
    refine AWP_ret ?_
    simp only [hres,go_sem]
    first | exact oF | (refine ⟨?_,oF⟩; first | (have e:kd=12:=(by assumption); subst e; rfl) | (exfalso; omega) | exact (startV_none (by omega) (by omega) (by omega) (by omega) (by omega) (by omega) (by omega)).symm)
   intro c6
   refine AWP_skip ?_
   simp only [go_sem]
   refine hK2 _ ?_
   refine oS fun K29 hK29=>?_
   refine oW T_l07Map_ok ?_
   simp only [go_sem]
   repeat (with_reducible first | refine oA ?_ | refine And.intro (by first | exact inR_iff.2 (by omega) | decide) ?_)
   refine hK29 _ ?_
   refine AWP_ret ?_
   simp only [hres,go_sem]
   first | exact oF | (refine ⟨?_,oF⟩; first | (have e:kd=12:=(by assumption); subst e; rfl) | (exfalso; omega) | exact (startV_none (by omega) (by omega) (by omega) (by omega) (by omega) (by omega) (by omega)).symm)
  intro c5
  refine oW T_l07Map_ok ?_
  simp only [go_sem]
  repeat (with_reducible first | refine oA ?_ | refine And.intro (by first | exact inR_iff.2 (by omega) | decide) ?_)
  refine hK26 _ ?_
  refine oC rfl ?_ ?_
  ·
   intro c6
   refine oS fun K30 hK30=>?_
   refine oW T_l07Map_ok ?_
   simp only [List.nodup_nil,go_sem]
   repeat (with_reducible first | refine oA ?_ | refine And.intro (by first | exact inR_iff.2 (by omega) | decide) ?_)
   refine hK30 _ ?_
   refine AWP_ret ?_
   simp only [hres,go_sem]
   first | exact oF | (refine ⟨?_,oF⟩; first | (have e:kd=14:=(by assumption); subst e; rfl) | (exfalso; omega) | exact (startV_none (by omega) (by omega) (by omega) (by omega) (by omega) (by omega) (by omega)).symm)
  intro c6
  refine AWP_skip ?_
  simp only [go_sem]
  refine hK2 _ ?_
  refine oS fun K31 hK31=>?_
  refine oW T_l07Map_ok ?_
  simp only [go_sem]
  repeat (with_reducible first | refine oA ?_ | refine And.intro (by first | exact inR_iff.2 (by omega) | decide) ?_)
  refine hK31 _ ?_
  refine AWP_ret ?_
  simp only [hres,go_sem]
  first | exact oF | (refine ⟨?_,oF⟩; first | (have e:kd=0:=(by assumption); subst e; rfl) | (exfalso; omega) | exact (startV_none (by omega) (by omega) (by omega) (by omega) (by omega) (by omega) (by omega)).symm)
def T_start:Tab:=fun f=>if f=144 then some (.p K_start) else T_l07Map f
theorem T_start_ok:TabOk Tryz.prog T_start:=tabP start_ok (fnOk_of Tryz.func144 rfl (by decide)) T_l07Map_ok
attribute [go_sem] T_start K_start
end Go.Proofs.YtflaacndokbddaaGreat
namespace Go.Proofs.YtflaacndokbddaaGreat
open Go.RowKit
set_option linter.unusedSimpArgs false
set_option linter.unusedVariables false
theorem linK_kT {x:Int} (h:inR x 1 17=true):(kT x).2.2.2.1=linKB x:=by
 obtain ⟨h1,h2⟩:=inR_iff.1 h
 have:x=1∨x=2∨x=3∨x=4∨x=5∨x=6∨x=7∨x=8∨x=9∨x=10∨x=11∨x=12∨x=13∨x=14∨x=15∨x=16∨x=17:=by omega
 rcases this with h | h | h | h | h | h | h | h | h | h | h | h | h | h | h | h | h<;>subst h<;>rfl
theorem kind_in {p:PatchD} (hF:formedB p=true) {i:Nat} (hi:i < p.2.2.1.length):inR (p.2.2.1.getD i n0).1 1 17=true:=by
 have h:=nodeB_4 hF hi
 unfold nodeB at h
 simp only [Bool.and_eq_true] at h
 exact h.1.1.1.1.1
theorem nodeC_at {p:PatchD} (hF:formedB p=true) {i:Nat} (hi:i < p.2.2.1.length):nodeC (p.2.2.1.getD i n0):=⟨_,nodeB_4 hF hi⟩
def cntK (ns:List NodeD) (kp:List Int) (k:Nat):Nat:=((kp.take k).map fun i=>(startV (ns.getD i.toNat n0)).length).sum
theorem cntK_next {ns:List NodeD} {kp:List Int} {k:Nat} (h:k < kp.length):cntK ns kp (k+1)=cntK ns kp k+(startV (ns.getD (kp.getD k 0).toNat n0)).length:=by
 unfold cntK
 rw [take_next (d:=(0:Int)) h,List.map_append,List.sum_append]; simp
theorem cntK_16 {p:PatchD} (hF:formedB p=true) {kp:List Int} (hr :∀j,j < kp.length→0≤kp.getD j 0∧kp.getD j 0 < p.2.2.1.length) :∀k,k≤kp.length→cntK p.2.2.1 kp k≤16 * k:=by
 intro k
 induction k with
 | zero=>intro _; simp [cntK]
 | succ k ih =>
   intro h
   have h1:=ih (by omega)
   have h2:=cntK_next (ns:=p.2.2.1) (kp:=kp) (k:=k) (by omega)
   have h3:=start_16 hF (i:=(kp.getD k 0).toNat) (by have:=hr k (by omega); omega)
   omega
def cntT (p:PatchD):Nat:=cntK p.2.2.1 (needF p) (needF p).length
theorem cntT_trim (p:PatchD):cntT p=cellN (trimP p).2.2.1:=by
 rw [trim_cells]; unfold cntT cntK; rw [List.take_length]
theorem drop_off {ns:List NodeD} {c:List Int} {k:Nat} (h:k < ns.length):(c.drop (offN ns k)).drop (startV (ns.getD k n0)).length=c.drop (offN ns (k+1)):=by
 rw [List.drop_drop,offN_next h]
def rowC (cols:List (List Int)) (i:Nat):List Int:=cols.map fun c=>c.getD i 0
def rowsP (cols:List (List Int)) (rows i:Nat):List (List Int):=((List.range i).map (rowC cols))++List.replicate (rows - i) []
theorem rowsP_len {cols:List (List Int)} {rows i:Nat} (h:i≤rows):(rowsP cols rows i).length=rows:=by simp [rowsP]; omega
theorem rowsP_0 (cols:List (List Int)) (rows:Nat):rowsP cols rows 0=List.replicate rows []:=by simp [rowsP]
theorem rowsP_all (cols:List (List Int)) (rows:Nat):rowsP cols rows rows=(List.range rows).map (rowC cols):=by simp [rowsP]
def rowsQ (cols:List (List Int)) (rows i j:Nat):List (List Int):=(rowsP cols rows i).set i (rowC (cols.take j) i)
theorem rowsQ_len {cols:List (List Int)} {rows i j:Nat} (h:i≤rows):(rowsQ cols rows i j).length=rows:=by rw [rowsQ,List.length_set,rowsP_len h]
theorem rowsQ_at {cols:List (List Int)} {rows i j:Nat} (h:i < rows):(rowsQ cols rows i j).getD i []=rowC (cols.take j) i:=by
 have hl:i < (rowsP cols rows i).length:=by rw [rowsP_len (by omega)]; exact h
 simp [rowsQ,List.getD,hl]
theorem rowsQ_0 {cols:List (List Int)} {rows i:Nat}:(rowsP cols rows i).set i []=rowsQ cols rows i 0:=by simp [rowsQ,rowC]
theorem rowC_next {cols:List (List Int)} {i j:Nat} (h:j < cols.length):rowC (cols.take j) i++[(cols.getD j []).getD i 0]=rowC (cols.take (j+1)) i:=by
 unfold rowC; rw [take_next (d:=([]:List Int)) h,List.map_append]; rfl
theorem rowsQ_next {cols:List (List Int)} {rows i j:Nat} (h:i < rows) (hj:j < cols.length):(rowsQ cols rows i j).set i (rowC (cols.take j) i++[(cols.getD j []).getD i 0])=rowsQ cols rows i (j+1):=by
 rw [rowC_next hj]; unfold rowsQ; rw [List.set_set]
theorem rowsQ_end {cols:List (List Int)} {rows i j:Nat} (h:i < rows) (hj:cols.length≤j):rowsQ cols rows i j=rowsP cols rows (i+1):=by
 unfold rowsQ
 rw [List.take_of_length_le hj]
 unfold rowsP
 rw [show rows - i=(rows - (i+1))+1 by omega,List.replicate_succ,List.set_append_right _ _ (by simp)]
 simp [List.range_succ]
end Go.Proofs.YtflaacndokbddaaGreat
