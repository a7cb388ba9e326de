/-
  Texts of this claim, joined (part 39). No condition beyond those of the theorems.
-/
import Derived.Test.YtgmabhkmiokiaaaGreatVa19
import Derived.Test.YtgmabhkmiokiaaaGreatVa21
import Derived.Test.YtgmabhkmiokiaaaGreatVa38
namespace Go.Proofs.YtgmabhkmiokiaaaGreat
open Go.RowKit
set_option linter.unusedSimpArgs false
set_option linter.unusedVariables false
def quoS (a b o:List Int) (i:Nat):Nat→Int
 | 0=>a.getD i 0
 | k+1=>wrap32 (quoS a b o i k - b.getD (k+1) 0 * o.getD (i - (k+1)) 0)
def quoK (b:List Int) (i:Nat):Nat:=min (b.length - 1) i
def quoV (a b:List Int):Nat→List Int
 | 0=>[]
 | n+1=>quoV a b n++[wrap32 (quoS a b (quoV a b n) n (quoK b n))]
theorem quoV_len (a b:List Int) :∀n,(quoV a b n).length=n:=by
 intro n
 induction n with
 | zero=>rfl
 | succ n ih=>simp only[quoV,List.length_append,ih,List.length_singleton]
def quoP (a b:List Int) (n i:Nat):List Int:=quoV a b i++List.replicate (n - i) 0
theorem quoP_len (a b:List Int) {n i:Nat} (h:i≤n):(quoP a b n i).length=n:=by
 simp only[quoP,List.length_append,quoV_len,List.length_replicate]; omega
theorem quoP_0 (a b:List Int) (n:Nat):quoP a b n 0=List.replicate n 0:=by simp [quoP,quoV]
theorem quoP_at (a b:List Int) (n:Nat) {i j:Nat} (h:j < i):(quoP a b n i).getD j 0=(quoV a b i).getD j 0:=by
 unfold quoP;rw [List.getD_eq_getElem?_getD,List.getElem?_append_left (by rw [quoV_len]; exact h)]; rfl
theorem quoP_next {a b:List Int} {n i:Nat} (h:i < n):(quoP a b n i).set i (wrap32 (quoS a b (quoV a b i) i (quoK b i)))=quoP a b n (i+1):=by
 unfold quoP;rw [List.set_append_right _ _ (by rw [quoV_len]; exact Nat.le_refl _),quoV_len,Nat.sub_self,show n - i=(n - (i+1))+1 by omega,List.replicate_succ,List.set_cons_zero]
 simp only[quoV,List.append_assoc,List.singleton_append]
theorem quoP_all {a b:List Int} {n:Nat}:quoP a b n n=quoV a b n:=by simp [quoP]
theorem quoS_eq (a b o:List Int) (i:Nat) :∀k,smps a=true→quoS a b o i k=wrap32 (a.getD i 0 - sg (fun x=>b.getD (x+1) 0 * o.getD (i - (x+1)) 0) k):=by
 intro k hs
 induction k with
 | zero=>simp only[quoS,sg,Int.sub_zero]; exact (smp_at hs i).symm
 | succ k ih =>
   simp only[quoS,sg];rw [ih,w32_sl,Int.sub_sub]
theorem quo_of {a b r:List Int} (hs:smps a=true) (hr:smps r=true) (h1:b.getD 0 0=1) {n:Nat} (h :∀i,i < n→wrap32 (pm (cf b) (cf r) i)=a.getD i 0) :∀m,m≤n→∀ j,j < m→(quoV a b m).getD j 0=r.getD j 0:=by
 intro m
 induction m with
 | zero=>intro _ j hj; omega
 | succ m ih =>
   intro hm j hj
   have ih:=ih (by omega)
   simp only[quoV];rw [List.getD_eq_getElem?_getD]
   by_cases e:j < m
   · rw [List.getElem?_append_left (by rw [quoV_len]; exact e),← List.getD_eq_getElem?_getD]; exact ih j e
   · obtain rfl:j=m:=by omega
     rw [List.getElem?_append_right (by rw [quoV_len]; exact Nat.le_refl _),quoV_len,Nat.sub_self]
     show wrap32 (quoS a b (quoV a b j) j (quoK b j))=_
     rw [quoS_eq _ _ _ _ _ hs,w32_w32,← h j (by omega)]
     have e1:sg (fun x=>b.getD (x+1) 0 * (quoV a b j).getD (j - (x+1)) 0) (quoK b j)=sg (fun x=>b.getD (x+1) 0 * r.getD (j - (x+1)) 0) (quoK b j):=sg_congr fun x hx=>by
      have:x < j:=by unfold quoK at hx; omega
      rw [ih _ (by omega)]
     have e2:sg (fun x=>b.getD (x+1) 0 * r.getD (j - (x+1)) 0) j=sg (fun x=>b.getD (x+1) 0 * r.getD (j - (x+1)) 0) (quoK b j):=sg_cut (by unfold quoK; omega) fun x h2 h3=>by
      rw [getD_ge (l:=b) (by unfold quoK at h2; omega),Int.zero_mul]
     have e3:pm (cf b) (cf r) j=r.getD j 0+sg (fun x=>b.getD (x+1) 0 * r.getD (j - (x+1)) 0) j:=by
      unfold pm;rw [sg_head];show b.getD 0 0 * r.getD (j - 0) 0+_=_
      rw [h1,Int.one_mul,Nat.sub_zero]; rfl
     rw [e1,← e2,w32_sl,e3,show r.getD j 0+sg (fun x=>b.getD (x+1) 0 * r.getD (j - (x+1)) 0) j - sg (fun x=>b.getD (x+1) 0 * r.getD (j - (x+1)) 0) j=r.getD j 0 by omega]
     exact smp_at hr j
theorem quo_eq {a b r:List Int} (hs:smps a=true) (hr:smps r=true) (h1:b.getD 0 0=1) {n:Nat} (hl:r.length=n) (h :∀i,i < n→wrap32 (pm (cf b) (cf r) i)=a.getD i 0):quoV a b n=r :=
 ext_getD (by rw [quoV_len,hl]) fun j=>by
  by_cases e:j < n
  · exact quo_of hs hr h1 h n (Nat.le_refl _) j e
  · rw [getD_ge (by rw [quoV_len]; omega),getD_ge (by omega)]
/-! The response, by powers of the matrix. -/
theorem sumV_at {a b:List Int} {j:Nat} (h:j < a.length):(sumV a b).getD j 0=wrap32 (a.getD j 0+b.getD j 0):=range_at _ h
theorem dot_zer (r:List Int) (n k:Nat):dotN r (zerL n) k=0:=by
 rw [dotN_eq,sg_z fun i _=>by rw [zerL_at,Int.mul_zero],w32_0]
theorem dot_unit (r:List Int) {n i:Nat} (hi:i < n):dotN r (unitL n i) n=wrap32 (r.getD i 0):=by
 rw [dotN_eq]
 congr 1
 rw [sg_congr (g:=fun x=>r.getD x 0 * (if i=x then 1 else 0)) fun x _=>by rw [unitL_at hi]]
 exact sg_pick (fun x=>r.getD x 0) hi
section
variable {x:LinD} {n:Nat} (h:linW x n) {i:Int} (hi:i.toNat < x.1.toNat)
include h
theorem row_a {s f:List Int} {j:Nat} (hj:j < n):(stepL x s f).1.getD j 0=wrap32 (dotN (x.2.1.getD j []) s s.length+dotN (x.2.2.1.getD j []) f f.length):=by
 simp only[stepL];rw [sumV_at (by rw [timesL_len,h.a.1]; exact hj),timesL_at (by rw [h.a.1]; exact hj),timesL_at (by rw [h.b.1]; exact hj)]
theorem row_c {s f:List Int} {j:Nat} (hj:j < x.2.2.2.1.length):(stepL x s f).2.getD j 0=wrap32 (dotN (x.2.2.2.1.getD j []) s s.length+dotN (x.2.2.2.2.getD j []) f f.length):=by
 simp only[stepL];rw [sumV_at (by rw [timesL_len]; exact hj),timesL_at hj,timesL_at (by rw [h.d.1]; exact hj)]
include hi
theorem rsp_pw (t:Nat) :∀j,j < n→(rspS x i (t+1)).getD j 0=wrap32 (pW n (mF x.2.1) (fun j=>(x.2.2.1.getD j []).getD i.toNat 0) j t):=by
 induction t with
 | zero =>
   intro j hj
   simp only[rspS,rspF];rw [row_a h hj,dot_zer,(unitL_ok _ _).1,dot_unit _ hi,Int.zero_add,w32_w32]
   rfl
 | succ t ih =>
   intro j hj
   have e:rspS x i (t+1+1)=(stepL x (rspS x i (t+1)) (rspF x i (t+1))).1:=rfl
   rw [e,row_a h hj];have hz:dotN (x.2.2.1.getD j []) (rspF x i (t+1)) (rspF x i (t+1)).length=0:=dot_zer _ _ _
   rw [hz,Int.add_zero,rspS_len,h.a.1,dotN_eq,w32_w32];show _=wrap32 (sg (fun l=>mF x.2.1 j l * pW n (mF x.2.1) (fun j=>(x.2.2.1.getD j []).getD i.toNat 0) l t) n)
   exact mod_sg fun l hl=>by rw [ih l hl,w32_mr]; rfl
theorem rsp_tail (t:Nat) {o:Nat} (ho:o < x.2.2.2.1.length):(rspO x i (t+1)).getD o 0=wrap32 (sg (fun l=>(x.2.2.2.1.getD o []).getD l 0 * pW n (mF x.2.1) (fun j=>(x.2.2.1.getD j []).getD i.toNat 0) l t) n):=by
 simp only[rspO];rw [row_c h ho];have hz:dotN (x.2.2.2.2.getD o []) (rspF x i (t+1)) (rspF x i (t+1)).length=0:=dot_zer _ _ _
 rw [hz,Int.add_zero,rspS_len,h.a.1,dotN_eq,w32_w32];exact mod_sg fun l hl=>by rw [rsp_pw h hi t l hl,w32_mr]
theorem ch_rsp {o:Int} (ho:o.toNat < x.2.2.2.1.length) {m k:Nat} (hk:n≤k) (hm:k+1 < m):wrap32 (pm (cf (chN x.2.1 n)) (cf (rspL x i o m)) (k+1))=0:=by
 have e1:wrap32 (pm (cf (chN x.2.1 n)) (cf (rspL x i o m)) (k+1))=wrap32 (sg (fun y=>pQ n (mF x.2.1) y * sg (fun l=>(x.2.2.2.1.getD o.toNat []).getD l 0 * pW n (mF x.2.1) (fun j=>(x.2.2.1.getD j []).getD i.toNat 0) l (k - y)) n) (k+1)):=by
  unfold pm
  rw [show sg (fun y=>cf (chN x.2.1 n) y * cf (rspL x i o m) (k+1 - y)) (k+1+1)=sg (fun y=>cf (chN x.2.1 n) y * cf (rspL x i o m) (k+1 - y)) (k+1) by
   simp only[sg];have hz:cf (chN x.2.1 n) (k+1)=0:=getD_ge (by rw [chN_len]; omega)
   rw [hz]; simp]
  refine mod_sg fun y hy=>?_
  have c1:cf (chN x.2.1 n) y=wrap32 (pQ n (mF x.2.1) y):=chN_at _ _ _
  have c2:cf (rspL x i o m) (k+1 - y)=wrap32 (sg (fun l=>(x.2.2.2.1.getD o.toNat []).getD l 0 * pW n (mF x.2.1) (fun j=>(x.2.2.1.getD j []).getD i.toNat 0) l (k - y)) n):=by
   unfold cf rspL;rw [range_at _ (by omega),show k+1 - y=(k - y)+1 by omega]
   exact rsp_tail h hi _ ho
  rw [c1,c2,w32_ml,w32_mr]
 rw [e1];have e2:sg (fun y=>pQ n (mF x.2.1) y * sg (fun l=>(x.2.2.2.1.getD o.toNat []).getD l 0 * pW n (mF x.2.1) (fun j=>(x.2.2.1.getD j []).getD i.toNat 0) l (k - y)) n) (k+1)=pm (pQ n (mF x.2.1)) (fun m=>sg (fun l=>(x.2.2.2.1.getD o.toNat []).getD l 0 * pW n (mF x.2.1) (fun j=>(x.2.2.1.getD j []).getD i.toNat 0) l m) n) k:=rfl
 rw [e2,pm_sumr,sg_z fun l hl=>by rw [ch n _ _ hl hk,Int.mul_zero],w32_0]
end
theorem trn_mul {x:LinD} (h:linW x x.2.1.length) {i o:Int} (hi:i.toNat < x.1.toNat) (ho:o.toNat < x.2.2.2.1.length) {m t:Nat} (ht:t < m):wrap32 (pm (cf (trnL x i o).2) (cf (rspL x i o m)) t)=(trnL x i o).1.getD t 0:=by
 have hd:cf (trnL x i o).2=cf (chN x.2.1 x.2.1.length):=funext fun j=>trimL_at _ _
 rw [hd];simp only[trnL];rw [trimL_at,convN_at]
 by_cases c:t < x.2.1.length+1
 · rw [if_pos c]
   congr 1
   refine sg_congr fun y hy=>?_
   unfold cf rspL;rw [range_at _ (by omega),range_at _ (by omega)]
 · rw [if_neg c];obtain ⟨k,rfl⟩ :∃k,t=k+1:=⟨t - 1,by omega⟩
   exact ch_rsp h hi ho (by omega) ht
theorem trn_quo {x:LinD} (h:linW x x.2.1.length) {i o:Int} (hi:i.toNat < x.1.toNat) (ho:o.toNat < x.2.2.2.1.length) (m:Nat):quoV (trnL x i o).1 (trnL x i o).2 m=rspL x i o m :=
 quo_eq (trimL_smp (convN_smp _ _ _)) (rspL_smp _ _ _ _) (by simp only[trnL]; rw [trimL_at,chN_1]) (rspL_len _ _ _ _) fun t ht=>trn_mul h hi ho ht
def v8X (c:List Int) (k:Int):Int:=match decide (k+1 < c.length) with
 | true=>IntKind.i64.wrap (IntKind.i64.wrap (256 * IntKind.i64.wrap (c.getD k.toNat 0))+IntKind.i64.wrap (c.getD (k+1).toNat 0))
 | false=>IntKind.i64.wrap (c.getD k.toNat 0)
def v8D (c:List Int) (k n:Int):Int:=match decide (n≤1) || decide ((c.length:Int)≤k) with
 | true=>0
 | false=>(v8X c k).tmod n
theorem v8X_nn {c:List Int} (h :∀b∈c,0≤b∧b≤255) {k:Int} (h0:0≤k) (hk:k < c.length):0≤v8X c k:=by
 have h1:=h _ (getD_mem (d:=(0:Int)) (show k.toNat < c.length by omega))
 unfold v8X
 split
 · rename_i h2
   have h2:=of_decide_eq_true h2
   have h3:=h _ (getD_mem (d:=(0:Int)) (show (k+1).toNat < c.length by omega))
   rw [wrapI (n:=c.getD k.toNat 0) (by omega),wrapI (n:=c.getD (k+1).toNat 0) (by omega),wrapI (n:=256 * c.getD k.toNat 0) (by omega),wrapI (by omega)]
   omega
 · rw [wrapI (by omega)]; omega
theorem v8D_rng {c:List Int} (h :∀b∈c,0≤b∧b≤255) {k n:Int} (h0:0≤k) (hn:1≤n):0≤v8D c k n∧v8D c k n < n:=by
 unfold v8D
 split
 · omega
 · rename_i h2
   simp only[Bool.or_eq_false_iff,decide_eq_false_iff_not] at h2
   have h3:=v8X_nn h h0 (k:=k) (by omega)
   exact ⟨Int.tmod_nonneg _ h3,Int.tmod_lt_of_pos _ (by omega)⟩
theorem inR_no {x a b:Int} (h:¬ (a≤x∧x≤b)):inR x a b=false:=by
 cases k:inR x a b with
 | false=>rfl
 | true=>exact absurd (inR_iff.1 k) h
theorem w32_sub2 (a b:Int):wrap32 (IntKind.i64.wrap (a - IntKind.i64.wrap b))=wrap32 (a - b):=by
 rw [w32_wrap,← w32_sr a (IntKind.i64.wrap b),w32_wrap,w32_sr]
theorem inv1:wrap32 (IntKind.i64.wrap (1 * wrap32 (IntKind.i64.wrap (2 - IntKind.i64.wrap (1 * 1)))))=1:=by
 rw [w32_wrap,w32_sub2,Int.one_mul,Int.one_mul,w32_w32]; exact w32_1
theorem inv2:wrap32 (IntKind.i64.wrap (1 * wrap32 (IntKind.i64.wrap (2 - IntKind.i64.wrap 1))))=1:=inv1
theorem trnL_25 {x:LinD} (h:x.2.1.length≤24) (i o:Int):(trnL x i o).1.length≤25∧(trnL x i o).2.length≤25∧1≤(trnL x i o).2.length:=by
 simp only[trnL];have h1:=(trimL_len (convN (chN x.2.1 x.2.1.length) (rspL x i o (x.2.1.length+1)) (x.2.1.length+1))).2
 have h2:=trimL_len (chN x.2.1 x.2.1.length)
 rw [convN_len] at h1;rw [chN_len] at h2;omega
theorem quoS_next (a b o:List Int) (i k:Nat):quoS a b o i (k+1)=wrap32 (quoS a b o i k - b.getD (k+1) 0 * o.getD (i - (k+1)) 0):=rfl
theorem imp_rsp {p:PatchD} (hk:linOkP p) {x:LinD} (hx:linM (trimP p)=x) {i o:Int} (hi:0≤i∧i < p.1) (ho:0≤o∧o < p.2.2.2.length):impR p i o 60=(quoV (trnL x i o).1 (trnL x i o).2 60,0):=by
 have hw:=hk.w; have j1:=hk.i; have j2:=hk.o
 rw [hx] at hw j1 j2
 rw [trn_quo hw (by omega) (by omega)]
 have hK:(inR i 0 (p.1 - 1) && (inR o 0 ((p.2.2.2.length:Int) - 1) && inR 60 0 4000))=true:=by
  rw [inR_t hi.1 (by omega),inR_t ho.1 (by omega)]; rfl
 rw [impR_0 hk.ok hK];have h:=trn_render hk hi ho 60
 rw [hx] at h;rw [← h]; rfl
set_option maxRecDepth 100000
set_option maxHeartbeats 4000000
def K_inverse:Con:=⟨[.val (.int .i64)],[⟨.int .i64,true⟩],fun x=>x.1=1,fun _=>1⟩
theorem inverse_ok:PureT Tryz.prog 48 K_inverse:=by
  refine pure_of_body Tryz.func48 rfl ?_
  have hres:Tryz.f48.results.toList=[.tmp 2]:=rfl
  rintro ⟨(x:Int),_⟩ hc hL
  simp only[K_inverse,go_sem] at hL
  simp only[K_inverse,St.init,St.initG,Tryz.ntmps48,go_sem] 
  have hx1:x=1:=hc
  subst hx1;refine oS fun _ hK1=>?_;refine oW T_implEqLin_ok ?_;simp only[go_sem];refine hK1 _ ?_;refine oS fun _ hK2=>?_;refine oW T_implEqLin_ok ?_;simp only[go_sem];refine hK2 _ ?_;refine oS fun _ hK3=>?_;refine oS fun _ hK4=>?_;refine oW T_implEqLin_ok ?_;simp only[go_sem];refine hK4 _ ?_;refine AWP_block ?_;refine AWP_loop_k (ι:={ k:Nat // k≤5 }) (fun k=>⟨[.c (.sc (.int .i64 (1))),zz,zz,.c (.sc (.int .i64 (1))),zz,.c (.sc (.int .i64 (k.1))),zz,zz,zz,zz,zz,zz,zz,zz,zz,zz,zz],[]⟩) (fun k=>5 - k.1) ⟨0,by omega⟩ ?_ ?_
  ·
   refine oK ?_;simp (maxSteps:=2000000)only[go_sem];all_goals (first | rfl | ((repeat' refine And.intro ?_ ?_)<;>first | rfl | simp))
  rintro ⟨k,hk⟩ K5 hL5
  refine oS fun _ hK6=>?_;refine oW T_implEqLin_ok ?_;simp only[go_sem];refine hK6 _ ?_;refine oS fun _ hK7=>?_;refine oC rfl ?_ ?_
  ·
   intro c0;refine AWP_skip ?_;simp only[go_sem];refine hK7 _ ?_;refine oS fun _ hK8=>?_;refine AWP_block ?_;refine oW T_implEqLin_ok ?_;simp (maxSteps:=2000000)only[inv1,inv2,go_sem];repeat (with_reducible refine oA ?_)
   refine hK8 _ ?_;refine oW T_implEqLin_ok ?_;simp only[go_sem];refine hL5 ⟨k+1,by omega⟩ _ (oK ?_) ?_
   ·
    simp (maxSteps:=2000000)only[go_sem];all_goals ((repeat' refine And.intro ?_ ?_)<;>first | rfl | exact wk (by omega) | (congr 1; done))
   ·
    first | (simp only[]; omega) | omega | (simp; omega)
  intro c0;refine AWP_exit ?_;simp only[go_sem];refine hK3 _ ?_;refine oS fun _ hK9=>?_;refine oW T_implEqLin_ok ?_;simp only[go_sem];refine hK9 _ ?_;refine AWP_ret ?_;simp only[hres,go_sem];first | exact oF | (refine ⟨?_,oF⟩; first | rfl | done)
def T_inverse:Tab:=fun f=>if f=48 then some (.p K_inverse) else T_implEqLin f
theorem T_inverse_ok:TabOk Tryz.prog T_inverse:=tabP inverse_ok (fnOk_of Tryz.func48 rfl (by decide)) T_implEqLin_ok
attribute [go_sem] T_inverse K_inverse
def K_quotient:Con:=⟨[.val ((.row 2 (.int .i64))),.val ((.row 2 (.int .i64))),.val (.int .i64)],[⟨(.row 2 (.int .i64)),true⟩],fun x=>(List.getD x.2.1 0 0=1∧1≤x.2.1.length∧x.2.1.length≤1000)∧inR x.2.2.1 0 4000=true,fun x=>quoV x.1 x.2.1 (Int.toNat x.2.2.1)⟩
theorem quotient_ok:PureT Tryz.prog 24 K_quotient:=by
  refine pure_of_body Tryz.func24 rfl ?_
  have hres:Tryz.f24.results.toList=[.tmp 6]:=rfl
  rintro ⟨(xs:List Int),(ys:List Int),(nn:Int),_⟩ hc hL
  simp only[K_quotient,go_sem] at hL
  simp only[K_quotient,St.init,St.initG,Tryz.ntmps24,go_sem] 
  obtain ⟨⟨hy1,hyl,hyl2⟩,hnr⟩:=(show (List.getD ys 0 0=1∧1≤ys.length∧ys.length≤1000)∧inR nn 0 4000=true from hc)
  obtain ⟨hn1,hn2⟩:=inR_iff.1 hnr
  have hzr:inR nn 0 1099511627776=true:=inR_t (by omega) (by omega)
  refine oS fun _ hK1=>?_;refine oW T_inverse_ok ?_;simp only[go_sem];refine hK1 _ ?_;refine oS fun _ hK2=>?_;refine oW T_inverse_ok ?_;simp (maxSteps:=2000000)only[hy1,go_sem];repeat (with_reducible first | refine oA ?_ | refine And.intro (by first | omega | exact hzr | rfl) ?_)
  refine hK2 _ ?_;refine oS fun _ hK3=>?_;refine oS fun _ hK4=>?_;refine oW T_inverse_ok ?_;simp only[List.length_replicate,go_sem];refine hK4 _ ?_;refine AWP_block ?_;refine AWP_loop_k (ι:={ i:Nat // i≤nn.toNat }) (fun k=>⟨[.c (.rd [] 2 (.int .i64) (xs)),.c (.rd [] 2 (.int .i64) (ys)),zz,zz,zz,zz,zz,.c (.sc (.int .i64 (1))),.c (.ow 9008),zz,zz,zz,zz,zz,zz,zz,zz,zz,zz,.c (.sc (.int .i64 ((nn.toNat:Nat)))),.c (.sc (.int .i64 (k.1))),zz,zz,zz,zz,zz,zz,zz,zz,zz,zz,zz,zz,zz,zz,zz,zz,zz,zz,zz,zz,zz,zz,zz,zz,zz,zz,zz,zz,zz,zz,zz,zz,zz,zz,zz,zz,zz,zz,zz],[(9008,.row 2 (.int .i64) (quoP xs ys nn.toNat k.1) [])]⟩) (fun k=>nn.toNat - k.1) ⟨0,by omega⟩ ?_ ?_
  ·
   refine oK ?_;simp (maxSteps:=2000000)only[go_sem];all_goals ((repeat' refine And.intro ?_ ?_)<;>first | rfl | exact (quoP_0 _ _ _).symm | (congr 1; exact (quoP_0 _ _ _).symm) | (congr 1; done) | (simp; done))
  rintro ⟨i,hi⟩ K5 hL5
  have hql:=quoP_len xs ys (n:=nn.toNat) (i:=i) (by omega)
  refine oS fun _ hK6=>?_;refine oW T_inverse_ok ?_;simp only[go_sem];refine hK6 _ ?_;refine oS fun _ hK7=>?_;refine oC rfl ?_ ?_
  ·
   intro c0;have hir:inR (i:Int) 0 9223372036854775807=true:=inR_t (by omega) (by omega)
   refine AWP_skip ?_;simp only[go_sem];refine hK7 _ ?_;refine oS fun _ hK8=>?_;refine AWP_block ?_;refine oS fun _ hK9=>?_;refine oW T_inverse_ok ?_;simp only[go_sem];refine hK9 _ ?_;refine oS fun _ hK10=>?_;refine oW T_inverse_ok ?_;simp only[go_sem];repeat (with_reducible first | refine oA ?_ | refine And.intro (by first | exact hir) ?_)
   refine hK10 _ ?_;refine oS fun _ hK11=>?_;refine oS fun _ hK12=>?_;refine oW T_inverse_ok ?_;simp only[go_sem];refine hK12 _ ?_;refine AWP_block ?_;refine AWP_loop_k (ι:={ j:Nat // j≤i∧j+1≤ys.length }) (fun k'=>⟨[.c (.rd [] 2 (.int .i64) (xs)),.c (.rd [] 2 (.int .i64) (ys)),zz,zz,zz,zz,zz,.c (.sc (.int .i64 (1))),.c (.ow 9008),.c (.sc (.int .i64 (i))),.c (.sc (.int .i64 ((quoS xs ys (quoV xs ys i) i k'.1)))),.c (.sc (.int .i64 (((k'.1:Nat):Int)+1))),zz,zz,zz,zz,zz,zz,zz,.c (.sc (.int .i64 ((nn.toNat:Nat)))),.c (.sc (.int .i64 (i))),zz,zz,zz,zz,zz,zz,zz,zz,zz,zz,zz,zz,zz,zz,zz,zz,zz,zz,zz,zz,zz,zz,zz,zz,zz,zz,zz,zz,zz,zz,zz,zz,zz,zz,zz,zz,zz,zz,zz],[(9008,.row 2 (.int .i64) (quoP xs ys nn.toNat i) [])]⟩) (fun k'=>i - k'.1) ⟨0,by omega,by omega⟩ ?_ ?_
   ·
    refine oK ?_;simp (maxSteps:=2000000)only[go_sem];all_goals ((repeat' refine And.intro ?_ ?_)<;>first | rfl | (congr 1; done) | (simp; done))
   rintro ⟨j,hj,hj2⟩ K13 hL13
   refine oS fun _ hK14=>?_;refine oS fun _ hK15=>?_;refine oW T_inverse_ok ?_;simp (maxSteps:=2000000)only[go_sem];repeat' (with_reducible first | refine oA ?_ | refine oT (fun g7=>?_) (fun g7=>?_) | refine oE (fun g7=>?_) (fun g7=>?_))
   all_goals
    refine hK15 _ ?_;refine AWP_cond rfl ?_ ?_
    ·
     intro c1;try simp only[zA,zB,zC,zD,zE,zF,zG,zH,zI] at c1
     all_goals
      have hji:j+1≤i:=by omega
      have hwj:IntKind.i64.wrap ((i:Int) - ((j:Int)+1))=((i - (j+1):Nat):Int):=by rw [wrapI (by omega)]; omega
      have hqa:=quoP_at xs ys nn.toNat (i:=i) (j:=i - (j+1)) (by omega)
      have hqs:=quoS_next xs ys (quoV xs ys i) i j
      have hjt:((j:Int)+1).toNat=j+1:=by omega
      refine AWP_skip ?_;simp only[go_sem];refine hK14 _ ?_;refine oS fun _ hK16=>?_;refine AWP_block ?_
      refine oR T_inverse_ok
        [[],[],[],[1,2],[1,2,3],[],[],[],[6,7],[5,6,7,8],[5,6,7,8,9],[1,2,3,4,5,6,7,8,9,10],[0,1,2,3,4,5,6,7,8,9,10,11],[0,1,2,3,4,5,6,7,8,9,10,11,12],[0,1,2,3,4,5,6,7,8,9,10,11,12,13]]
        [[],[],[],[],[],[],[],[],[],[],[],[],[],[],[]]
        [[],[],[],[],[],[],[],[],[],[],[],[],[],[],[]] (by kernel_rfl) (by kernel_rfl) (adrawR_ok (acc:=[]) ?_)
      simp (maxSteps:=2000000)only[hwj,hql,hqa,w32_sub2,Int.toNat_natCast,go_sem];repeat (with_reducible first | refine oD ?_ | refine And.intro (by first | omega) ?_)
      refine hK16 _ ?_;refine oW T_inverse_ok ?_;simp only[go_sem];refine hL13 ⟨j+1,by omega,by omega⟩ _ (oK ?_) ?_
      ·
       simp (maxSteps:=2000000)only[go_sem];all_goals ((repeat' refine And.intro ?_ ?_)<;>first | rfl | exact wk (by omega) | exact hqs.symm | (congr 1; exact hqs.symm) | (rw [wrapI (by omega)]; omega) | (congr 1; done))
      ·
       first | (simp only[]; omega) | omega | (simp; omega)
    ·
     intro c1;try simp only[zA,zB,zC,zD,zE,zF,zG,zH,zI] at c1
     all_goals
      have hje:j=quoK ys i:=by unfold quoK; omega
      have hset:(quoP xs ys nn.toNat i).set i (wrap32 (quoS xs ys (quoV xs ys i) i j))=quoP xs ys nn.toNat (i+1):=by rw [hje]; exact quoP_next (by omega)
      refine AWP_exit ?_;simp only[go_sem];refine hK11 _ ?_;refine oW T_inverse_ok ?_;simp (maxSteps:=2000000)only[hql,w32_wrap,Int.mul_one,go_sem];repeat (with_reducible first | refine oA ?_ | refine And.intro (by first | omega) ?_)
      refine hK8 _ ?_;refine oW T_inverse_ok ?_;simp only[go_sem];refine hL5 ⟨i+1,by omega⟩ _ (oK ?_) ?_
      ·
       simp (maxSteps:=2000000)only[go_sem];all_goals ((repeat' refine And.intro ?_ ?_)<;>first | rfl | exact wk (by omega) | exact hset | (congr 1; exact hset) | (congr 1; done))
      ·
       first | (simp only[]; omega) | omega | (simp; omega)
  intro c0;have hie:quoP xs ys nn.toNat i=quoV xs ys nn.toNat:=by rw [show i=nn.toNat by omega]; exact quoP_all
  refine AWP_exit ?_;simp only[go_sem];refine hK3 _ ?_;refine oS fun _ hK17=>?_;refine oW T_inverse_ok ?_;simp only[go_sem];refine hK17 _ ?_;refine AWP_ret ?_;simp only[hres,go_sem];first | exact oF | (refine ⟨?_,oF⟩; exact hie)
def T_quotient:Tab:=fun f=>if f=24 then some (.p K_quotient) else T_inverse f
theorem T_quotient_ok:TabOk Tryz.prog T_quotient:=tabP quotient_ok (fnOk_of Tryz.func24 rfl (by decide)) T_inverse_ok
attribute [go_sem] T_quotient K_quotient
def K_response:Con:=⟨[.val ((.prod (.row 2 (.int .i64)) (.row 2 (.int .i64)))),.val (.int .i64)],[⟨(.row 2 (.int .i64)),true⟩,⟨.int .i64,true⟩],fun x=>trB x.1=true∧inR x.2.1 0 4000=true,fun x=>(quoV x.1.1 x.1.2 (Int.toNat x.2.1),0)⟩
theorem response_ok:PureT Tryz.prog 9 K_response:=by
  refine pure_of_body Tryz.func9 rfl ?_
  have hres:Tryz.f9.results.toList=[.tmp 4,.tmp 5]:=rfl
  rintro ⟨⟨(xa:List Int),(xb:List Int)⟩,(nn:Int),_⟩ hc hL
  simp only[K_response,go_sem] at hL
  simp only[K_response,St.init,St.initG,Tryz.ntmps9,go_sem] 
  obtain ⟨ht,hnr⟩:=(show trB (xa,xb)=true∧inR nn 0 4000=true from hc)
  obtain ⟨_,⟨h1,h2,_⟩,h3⟩:=trB_len ht
  have h1:1≤xb.length:=h1
  have h2:xb.length≤65:=h2
  have hq:(List.getD xb 0 0=1∧1≤xb.length∧xb.length≤1000)∧inR nn 0 4000=true:=⟨⟨h3,h1,by omega⟩,hnr⟩
  refine oS fun _ hK1=>?_;refine oW T_quotient_ok ?_;simp only[go_sem];refine hK1 _ ?_;refine oS fun _ hK2=>?_;refine oS fun _ hK3=>?_;refine oW T_quotient_ok ?_;simp only[List.nodup_cons,List.nodup_nil,List.not_mem_nil,not_false_eq_true,ht,go_sem];repeat (with_reducible first | refine oA ?_ | refine And.intro (by first | exact h1) ?_)
  refine hK3 _ ?_;refine oC rfl ?_ ?_
  ·
   intro c0;exfalso;clear hK1 hK2 hK3;simp_all
  intro c0;refine AWP_skip ?_;simp only[go_sem];refine hK2 _ ?_;refine oS fun _ hK4=>?_;refine oS fun _ hK5=>?_;refine oW T_quotient_ok ?_;simp only[hnr,go_sem];repeat (with_reducible refine oA ?_)
  refine hK5 _ ?_;refine oC rfl ?_ ?_
  ·
   intro c1;exfalso;clear hK1 hK2 hK3 hK4 hK5;simp_all
  intro c1;refine AWP_skip ?_;simp only[go_sem];refine hK4 _ ?_;refine oS fun _ hK6=>?_;refine oW T_quotient_ok ?_;simp (maxSteps:=2000000)only[List.nodup_cons,List.nodup_nil,List.not_mem_nil,not_false_eq_true,go_sem];repeat (with_reducible first | refine oA ?_ | refine And.intro (by first | exact hq) ?_)
  refine hK6 _ ?_;refine AWP_ret ?_;simp only[hres,go_sem];first | exact oF | (refine ⟨?_,oF⟩; first | exact ⟨rfl,rfl⟩ | rfl)
def T_response:Tab:=fun f=>if f=9 then some (.p K_response) else T_quotient f
theorem T_response_ok:TabOk Tryz.prog T_response:=tabP response_ok (fnOk_of Tryz.func9 rfl (by decide)) T_quotient_ok
attribute [go_sem] T_response K_response
end Go.Proofs.YtgmabhkmiokiaaaGreat
