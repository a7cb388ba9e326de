/-
  Texts of this claim, joined (part 16). No condition beyond those of the theorems.
-/
import Derived.Test.YtgmabhkmiokiaaaGreatVa14
set_option linter.unusedSimpArgs false
set_option linter.unusedVariables false
namespace Go.Proofs.YtgmabhkmiokiaaaGreat
open Go.RowKit
def bfs (ns:List NodeD):Nat→List Bool→List Int→List Bool
 | 0,m,_=>m
 | f+1,m,t=>match t with
   | []=>m
   | i::t=>match m.getD i.toNat true with
     | true=>bfs ns f m t
     | false=>bfs ns f (m.set i.toNat true) (t++(ns.getD i.toNat n0).2.2.2)
def bmu (m:List Bool) (t:List Int):Nat:=4 * m.count false+t.length
def marksF (p:PatchD):List Bool:=bfs p.2.2.1 (4 * p.2.2.1.length+p.2.2.2.length) (List.replicate p.2.2.1.length false) p.2.2.2
theorem bfs_nil {ns:List NodeD} {f:Nat} {m:List Bool}:bfs ns f m []=m:=by cases f<;>rfl
theorem count_set1 {m:List Bool} {i:Nat} (hi:i < m.length) (h:m.getD i true=false):(m.set i true).count false+1=m.count false:=by
 induction m generalizing i with
 | nil=>simp at hi
 | cons x l ih =>
   cases i with
   | zero =>
     have:x=false:=by simpa using h
     subst this; simp
   | succ i =>
     have:=ih (i:=i) (by simpa using hi) (by simpa using h)
     simp only[List.set_cons_succ,List.count_cons];omega
theorem bget {m:List Bool} {i:Nat} (hi:i < m.length) (d e:Bool):m.getD i d=m.getD i e:=by simp [List.getD,hi]
theorem bset {m:List Bool} {i j:Nat} (hi:i < m.length):(m.set i true).getD j false=if i=j then true else m.getD j false:=getD_set hi
def froms (ns:List NodeD):Prop:=∀ i,i < ns.length→(ns.getD i n0).2.2.2.length≤3∧idxs ns.length (ns.getD i n0).2.2.2=true
theorem froms_of {p:PatchD} (hF:formedB p=true):froms p.2.2.1:=fun i hi=>by
 have h:=(uOk_patch hF).2 _ (getD_mem (d:=n0) hi)
 exact ⟨h.2.1,h.2.2.1⟩
theorem idxs_app {n:Nat} {a b:List Int} (h:idxs n a=true) (k:idxs n b=true):idxs n (a++b)=true:=by
 unfold idxs at *; rw [List.all_append,h,k]; rfl
theorem idxs_cons {n:Nat} {x:Int} {l:List Int} (h:idxs n (x::l)=true):(0≤x∧x < n)∧idxs n l=true:=by
 have h1:=idxs_at h List.mem_cons_self
 refine ⟨by omega,?_⟩
 unfold idxs at *; simp only[List.all_cons,Bool.and_eq_true] at h; exact h.2
structure BfsOk (ns:List NodeD) (m:List Bool) (t:List Int) (M:List Bool):Prop where
 len:M.length=ns.length
 up :∀i,m.getD i false=true→M.getD i false=true
 todo :∀x∈t,M.getD x.toNat false=true
 closed:(∀ i,i < ns.length→m.getD i false=true→∀ x∈(ns.getD i n0).2.2.2,m.getD x.toNat false=true∨x∈t)→∀ i,i < ns.length→M.getD i false=true→∀ x∈(ns.getD i n0).2.2.2,M.getD x.toNat false=true
 least :∀S:Nat→Prop,(∀ i,i < ns.length→S i→∀ x∈(ns.getD i n0).2.2.2,S x.toNat)→(∀ i,m.getD i false=true→S i)→(∀ x∈t,S x.toNat)→∀ i,M.getD i false=true→S i
theorem bfs_ok {ns:List NodeD} (hfr:froms ns) :∀(f:Nat) (m:List Bool) (t:List Int),m.length=ns.length→idxs ns.length t=true→bmu m t≤f→BfsOk ns m t (bfs ns f m t):=by
 intro f
 induction f with
 | zero =>
   intro m t hm ht hb
   have ht0:t=[]:=by unfold bmu at hb; exact List.eq_nil_of_length_eq_zero (by omega)
   subst ht0;exact ⟨hm,fun i h=>h,(fun x hx=>by cases hx),fun h i hi hM x hx=>(h i hi hM x hx).resolve_right (by simp),fun S _ h _ i hi=>h i hi⟩
 | succ f ih =>
   intro m t hm ht hb
   cases t with
   | nil=>exact ⟨hm,fun i h=>h,(fun x hx=>by cases hx),fun h i hi hM x hx=>(h i hi hM x hx).resolve_right (by simp),fun S _ h _ i hi=>h i hi⟩
   | cons a t =>
     obtain ⟨⟨ha0,ha1⟩,ht⟩:=idxs_cons ht
     have hal:a.toNat < m.length:=by omega
     have han:a.toNat < ns.length:=by omega
     unfold bfs;simp only
     cases hma:m.getD a.toNat true with
     | true =>
       simp only
       have hma':m.getD a.toNat false=true:=by rw [bget hal false true]; exact hma
       have k:=ih m t hm ht (by unfold bmu at *; simp only[List.length_cons] at hb; omega)
       refine ⟨k.len,k.up,fun x hx=>?_,fun h=>k.closed fun i hi hM x hx=>?_,fun S h1 h2 h3=>k.least S h1 h2 fun x hx=>h3 x (List.mem_cons_of_mem _ hx)⟩
       · rcases List.mem_cons.1 hx with rfl | hx
         · exact k.up _ hma'
         · exact k.todo x hx
       · rcases h i hi hM x hx with h | h
         · exact .inl h
         · rcases List.mem_cons.1 h with rfl | h
           · exact .inl hma'
           · exact .inr h
     | false =>
       simp only
       obtain ⟨f1,f2⟩:=hfr a.toNat han
       have hc:=count_set1 hal hma
       have k:=ih (m.set a.toNat true) (t++(ns.getD a.toNat n0).2.2.2) (by simpa using hm) (idxs_app ht f2) (by unfold bmu at *; simp only[List.length_cons,List.length_append] at *; omega)
       refine ⟨k.len,fun i hi=>k.up i ?_,fun x hx=>?_,fun h=>k.closed fun i hi hM x hx=>?_,fun S h1 h2 h3=>k.least S h1 (fun i hi=>?_) fun x hx=>?_⟩
       · rw [bset hal]; split
         · rfl
         · exact hi
       · rcases List.mem_cons.1 hx with rfl | hx
         · exact k.up _ (by rw [bset hal,if_pos rfl])
         · exact k.todo x (List.mem_append_left _ hx)
       · rw [bset hal] at hM
         by_cases e:a.toNat=i
         · subst e; exact .inr (List.mem_append_right _ hx)
         · rw [if_neg e] at hM;rcases h i hi hM x hx with h | h
           · left; rw [bset hal]; split
             · rfl
             · exact h
           · rcases List.mem_cons.1 h with rfl | h
             · left; rw [bset hal,if_pos rfl]
             · exact .inr (List.mem_append_left _ h)
       · rw [bset hal] at hi
         by_cases e:a.toNat=i
         · rw [← e]; exact h3 a List.mem_cons_self
         · rw [if_neg e] at hi; exact h2 i hi
       · rcases List.mem_append.1 hx with hx | hx
         · exact h3 x (List.mem_cons_of_mem _ hx)
         · exact h1 a.toNat han (h3 a List.mem_cons_self) x hx
theorem rep_get (n i:Nat):(List.replicate n false).getD i false=false:=by
 by_cases h:i < n
 · simp [List.getD,h]
 · rw [List.getD_eq_getElem?_getD,List.getElem?_eq_none (by simp; omega)]; rfl
section
variable {p:PatchD}
theorem marks_ok (hF:formedB p=true):BfsOk p.2.2.1 (List.replicate p.2.2.1.length false) p.2.2.2 (marksF p) :=
 bfs_ok (froms_of hF) _ _ _ (by simp) (formedB_parts hF).2.2.2.2.2.1 (by simp [bmu])
theorem marks_len (hF:formedB p=true):(marksF p).length=p.2.2.1.length:=(marks_ok hF).len
theorem marks_out (hF:formedB p=true) {x:Int} (hx:x∈p.2.2.2):(marksF p).getD x.toNat false=true:=(marks_ok hF).todo x hx
theorem marks_from (hF:formedB p=true) {i:Nat} (hi:i < p.2.2.1.length) (h:(marksF p).getD i false=true) {x:Int} (hx:x∈(p.2.2.1.getD i n0).2.2.2):(marksF p).getD x.toNat false=true :=
 (marks_ok hF).closed (fun i _ h=>by rw [rep_get] at h; cases h) i hi h x hx
theorem marks_least (hF:formedB p=true) (S:Nat→Prop) (h1 :∀i,i < p.2.2.1.length→S i→∀ x∈(p.2.2.1.getD i n0).2.2.2,S x.toNat) (h2 :∀x∈p.2.2.2,S x.toNat) :∀i,(marksF p).getD i false=true→S i :=
 (marks_ok hF).least S h1 (fun i h=>by rw [rep_get] at h; cases h) h2
end
def needT (M:List Bool) (k:Nat):List Int:=((List.range k).filter fun i=>M.getD i false).map fun (i:Nat)=>(i:Int)
theorem needT_t {M:List Bool} {k:Nat} (h:M.getD k false=true):needT M (k+1)=needT M k++[(k:Int)]:=by simp [needT,List.range_succ,List.filter_append,h,-List.getD_eq_getElem?_getD]
theorem needT_f {M:List Bool} {k:Nat} (h:M.getD k false=false):needT M (k+1)=needT M k:=by simp [needT,List.range_succ,List.filter_append,h,-List.getD_eq_getElem?_getD]
theorem needT_mem {M:List Bool} {k:Nat} {x:Int}:x∈needT M k ↔∃i:Nat,i < k∧M.getD i false=true∧x=(i:Int):=by
 simp only[needT,List.mem_map,List.mem_filter,List.mem_range]
 constructor
 · rintro ⟨i,⟨h1,h2⟩,rfl⟩; exact ⟨i,h1,h2,rfl⟩
 · rintro ⟨i,h1,h2,rfl⟩; exact ⟨i,⟨h1,h2⟩,rfl⟩
theorem needT_len (M:List Bool) :∀k,(needT M k).length≤k:=by
 intro k;have:=List.length_filter_le (fun i=>M.getD i false) (List.range k)
 simpa [needT] using this
theorem needT_sorted (M:List Bool) (k:Nat):(needT M k).Pairwise (· < ·):=by
 refine List.Pairwise.map _ (fun a b (h:a < b)=>by omega) (List.Pairwise.filter _ List.pairwise_lt_range)
theorem sorted_ext :∀{a b:List Int},a.Pairwise (· < ·)→b.Pairwise (· < ·)→(∀ x,x∈a↔x∈b)→a=b:=by
 intro a
 induction a with
 | nil =>
   intro b _ _ h
   cases b with
   | nil=>rfl
   | cons y l=>have:=(h y).2 List.mem_cons_self; cases this
 | cons x a ih =>
   intro b ha hb h
   cases b with
   | nil=>have:=(h x).1 List.mem_cons_self; cases this
   | cons y b =>
     obtain ⟨ha1,ha2⟩:=List.pairwise_cons.1 ha
     obtain ⟨hb1,hb2⟩:=List.pairwise_cons.1 hb
     have e:x=y:=by
      rcases List.mem_cons.1 ((h x).1 List.mem_cons_self) with e | e
      · exact e
      · rcases List.mem_cons.1 ((h y).2 List.mem_cons_self) with e2 | e2
        · exact e2.symm
        · have:=hb1 x e; have:=ha1 y e2; omega
     subst e;rw [ih ha2 hb2 fun z=>⟨fun hz=>?_,fun hz=>?_⟩]
     · rcases List.mem_cons.1 ((h z).1 (List.mem_cons_of_mem _ hz)) with e | e
       · have:=ha1 z hz; omega
       · exact e
     · rcases List.mem_cons.1 ((h z).2 (List.mem_cons_of_mem _ hz)) with e | e
       · have:=hb1 z hz; omega
       · exact e
def needF (p:PatchD):List Int:=needT (marksF p) p.2.2.1.length
def trimP (p:PatchD):PatchD:=keepP p (needF p)
section
variable {p:PatchD} (hF:formedB p=true)
theorem need_mem {x:Int}:x∈needF p ↔∃i:Nat,i < p.2.2.1.length∧(marksF p).getD i false=true∧x=(i:Int):=needT_mem
theorem need_rng :∀j,j < (needF p).length→0≤(needF p).getD j 0∧(needF p).getD j 0 < p.2.2.1.length:=fun j hj=>by
 obtain ⟨i,h1,_,h3⟩:=need_mem.1 (getD_mem (d:=(0:Int)) hj)
 omega
theorem need_inj :∀i j,i < (needF p).length→j < (needF p).length→(needF p).getD i 0=(needF p).getD j 0→i=j:=fun i j hi hj e=>by
 have hs:=List.pairwise_iff_getElem.1 (needT_sorted (marksF p) p.2.2.1.length)
 have ei:(needF p).getD i 0=(needF p)[i]:=by simp [List.getD,hi]
 have ej:(needF p).getD j 0=(needF p)[j]:=by simp [List.getD,hj]
 rcases Nat.lt_trichotomy i j with h | h | h
 · have h2:(needF p)[i] < (needF p)[j]:=hs i j hi hj h
   omega
 · exact h
 · have h2:(needF p)[j] < (needF p)[i]:=hs j i hj hi h
   omega
def trimRel (p:PatchD) (i c:Nat):Prop:=c < (needF p).length∧(needF p).getD c 0=(i:Int)
abbrev byT (p:PatchD):List Int:=byL p.2.2.1.length (needF p) (needF p).length
theorem byT_at {i c:Nat} (h:trimRel p i c):(byT p).getD i 0=(c:Int):=by
 have:=byL_at need_rng need_inj (needF p).length (Nat.le_refl _) c h.1
 rwa [h.2,Int.toNat_natCast] at this
theorem trim_has {i:Nat} (hi:i < p.2.2.1.length) (h:(marksF p).getD i false=true) :∃c,trimRel p i c:=by
 obtain ⟨c,hc,e⟩:=List.mem_iff_getElem.1 (need_mem.2 ⟨i,hi,h,rfl⟩)
 exact ⟨c,hc,by simp [List.getD,hc,e]⟩
theorem trimRel_at {i c:Nat} (h:trimRel p i c):i < p.2.2.1.length∧(marksF p).getD i false=true:=by
 obtain ⟨j,h1,h2,h3⟩:=need_mem.1 (getD_mem (d:=(0:Int)) h.1)
 obtain rfl:i=j:=by have:=h.2; omega
 exact ⟨h1,h2⟩
theorem trim_len:(trimP p).2.2.1.length=(needF p).length:=by simp [trimP,keepP]
theorem trim_at {i c:Nat} (h:trimRel p i c):(trimP p).2.2.1.getD c n0=mrgX (byT p) (p.2.2.1.getD i n0):=by
 have e:(trimP p).2.2.1.getD c n0=keepN p.2.2.1 (byT p) ((needF p).getD c 0):=by simp [trimP,keepP,List.getD,h.1]
 rw [e,h.2]; unfold keepN; rw [Int.toNat_natCast]
theorem trim_list {l:List Int} (hl:idxs p.2.2.1.length l=true) (hm :∀x∈l,(marksF p).getD x.toNat false=true):FromR (trimRel p) l (clsM (byT p) l):=by
 refine ⟨by simp [clsM],fun k hk=>?_⟩
 have hx:=idxs_at hl (getD_mem (d:=(0:Int)) hk)
 obtain ⟨a,ha⟩:=Int.eq_ofNat_of_zero_le hx.1
 have hma:=hm _ (getD_mem (d:=(0:Int)) hk)
 rw [ha,Int.toNat_natCast] at hma;obtain ⟨c,hc⟩:=trim_has (by omega) hma
 refine ⟨a,c,ha,?_,hc⟩
 have e:(clsM (byT p) l).getD k 0=(byT p).getD (l.getD k 0).toNat 0:=by simp [clsM,List.getD,hk]
 rw [e,ha,Int.toNat_natCast,byT_at hc]
include hF in
theorem trim_sim:PSim p (trimP p) (trimRel p) where
 inp:=rfl
 tabs:=rfl
 node:=fun i c h=>by
  obtain ⟨hi,hm⟩:=trimRel_at h
  refine ⟨hi,by rw [trim_len]; exact h.1,?_⟩
  rw [trim_at h];exact ⟨rfl,.inl (trim_list (froms_of hF i hi).2 fun x hx=>marks_from hF hi hm hx)⟩
 outs:=trim_list (formedB_parts hF).2.2.2.2.2.1 fun x hx=>marks_out hF hx
theorem trim_idx {l:List Int} (hl:idxs p.2.2.1.length l=true) (hm :∀x∈l,(marksF p).getD x.toNat false=true):idxs (trimP p).2.2.1.length (clsM (byT p) l)=true:=idxs_of fun j hj=>by
 have hr:=trim_list hl hm
 obtain ⟨a,c,_,h2,h3⟩:=hr.2 j (by rw [hr.1]; exact hj)
 rw [h2,trim_len];have:=h3.1
 omega
include hF in
theorem trim_formed:formedB (trimP p)=true:=by
 have hidx:=(formedB_parts hF).2.2.2.2.2.1
 have hF':=hF
 simp only[formedB,Bool.and_eq_true,decide_eq_true_eq] at hF' ⊢
 obtain ⟨⟨⟨⟨⟨h1,h2⟩,h3⟩,h4⟩,h5⟩,h6⟩:=hF'
 have hml:(trimP p).2.2.1.length=(needF p).length:=trim_len
 have hnl:(needF p).length≤p.2.2.1.length:=needT_len _ _
 refine ⟨⟨⟨⟨⟨h1,h2⟩,by omega⟩,by show (clsM _ _).length≤4; simp only[clsM,List.length_map]; exact h4⟩,trim_idx hidx fun x hx=>marks_out hF hx⟩,List.all_eq_true.2 fun nd hd=>?_⟩
 obtain ⟨c,hc,rfl⟩:=List.mem_iff_getElem.1 hd
 rw [hml] at hc;obtain ⟨i,hi⟩:=Int.eq_ofNat_of_zero_le (need_rng c hc).1
 have hr:trimRel p i c:=⟨hc,hi⟩
 have e:(trimP p).2.2.1[c]'(by rw [hml]; exact hc)=mrgX (byT p) (p.2.2.1.getD i n0):=by rw [← trim_at hr]; simp [List.getD,hml,hc]
 rw [e];obtain ⟨hi2,hm⟩:=trimRel_at hr
 obtain ⟨q1,q2,q3⟩:=nodeIn_parts (node_at hF hi2)
 have ix:=trim_idx q2 fun x hx=>marks_from hF hi2 hm hx
 refine nodeIn_t (nodeB_from q1 (by simp [clsM]) fun f hf=>?_) ix q3
 have:=idxs_at ix hf
 omega
end
theorem trim_patch {p:PatchD} (hP:patchB p=true):patchB (trimP p)=true:=by
 have hF:=(patchB_parts hP).1
 unfold patchB;rw [trim_formed hF,Bool.true_and];refine decide_eq_true (ordL_ind (ordInd_sim hP (trim_sim hF) fun c hc=>?_))
 rw [trim_len] at hc;obtain ⟨i,hi⟩:=Int.eq_ofNat_of_zero_le (need_rng c hc).1
 exact ⟨i,hc,hi⟩
theorem trim_render {p:PatchD} (hP:patchB p=true) {ins:List (List Int)} (hi:insOk p ins) (m:Nat):renderL p ins m=renderL (trimP p) ins m :=
 sim_render hP (trim_patch hP) (trim_sim (patchB_parts hP).1) hi m
theorem trim_keep {p:PatchD} (hP:patchB p=true):KeepOk p (needF p) where
 fits:=smallP_fitsP (smallP_of hP)
 n24:=(formedB_parts (patchB_parts hP).1).1
 k24:=by have h1:=(formedB_parts (patchB_parts hP).1).1; have h2:=needT_len (marksF p) p.2.2.1.length; unfold needF; omega
 rng:=idxs_of need_rng
 frs:=fun x hx=>by
  have h:=(uOk_patch (patchB_parts hP).1).2 x hx
  exact ⟨by have:=h.2.1; omega,h.2.2.1⟩
 o4:=(formedB_parts (patchB_parts hP).1).2.1
 outs:=(formedB_parts (patchB_parts hP).1).2.2.2.2.2.1
def putL:List Int→Int→List Int
 | [],a=>[a]
 | x::l,a=>match decide (x < a) with
   | true=>x::putL l a
   | false=>match decide (x=a) with
     | true=>x::l
     | false=>a::x::l
theorem putL_mem {x a:Int} :∀{l:List Int},x∈putL l a↔x=a∨x∈l:=by
 intro l
 induction l with
 | nil=>simp [putL]
 | cons y l ih =>
   unfold putL
   split
   · simp only[List.mem_cons,ih]
     constructor
     · rintro (h | h | h)
       · exact .inr (.inl h)
       · exact .inl h
       · exact .inr (.inr h)
     · rintro (h | h | h)
       · exact .inr (.inl h)
       · exact .inl h
       · exact .inr (.inr h)
   · split
     · rename_i h; have:=of_decide_eq_true h; subst this; simp
     · simp
theorem putL_sorted {a:Int} :∀{l:List Int},l.Pairwise (· < ·)→(putL l a).Pairwise (· < ·):=by
 intro l
 induction l with
 | nil=>intro _; simp [putL]
 | cons y l ih =>
   intro h;obtain ⟨h1,h2⟩:=List.pairwise_cons.1 h
   unfold putL
   split
   · rename_i hy
     have hy:=of_decide_eq_true hy
     refine List.pairwise_cons.2 ⟨fun z hz=>?_,ih h2⟩
     rcases putL_mem.1 hz with rfl | hz
     · exact hy
     · exact h1 z hz
   · rename_i hy
     have hy:=of_decide_eq_false hy
     split
     · exact h
     · rename_i he
       have he:=of_decide_eq_false he
       refine List.pairwise_cons.2 ⟨fun z hz=>?_,h⟩
       rcases List.mem_cons.1 hz with rfl | hz
       · omega
       · have:=h1 z hz; omega
theorem putL_app {a:Int} :∀{l m:List Int},(∀ x∈l,x < a)→putL (l++m) a=l++putL m a:=by
 intro l m
 induction l with
 | nil=>intro _; rfl
 | cons y l ih =>
   intro h;show putL (y::(l++m)) a=y::(l++putL m a)
   rw [← ih fun x hx=>h x (List.mem_cons_of_mem _ hx)]
   conv=>lhs; unfold putL
   rw [decide_eq_true (h y List.mem_cons_self)]
theorem putL_new {a x:Int} {l:List Int} (h:a < x):putL (x::l) a=a::x::l:=by unfold putL; rw [decide_eq_false (by omega),decide_eq_false (by omega)]
theorem putL_old {a:Int} {l:List Int}:putL (a::l) a=a::l:=by unfold putL; rw [decide_eq_false (by omega),decide_eq_true rfl]
theorem rising_len {n:Nat} {l:List Int} (h:l.Pairwise (· < ·)) (hr :∀x∈l,0≤x∧x < n):l.length≤n:=pigeon n l (h.imp fun hab=>by omega) hr
theorem need_eq {p:PatchD} (hF:formedB p=true) {l:List Int} (hs:l.Pairwise (· < ·)) (hr :∀x∈l,0≤x∧x < p.2.2.1.length∧(marksF p).getD x.toNat false=true) (ho :∀x∈p.2.2.2,x∈l)
 (hc :∀x∈l,∀ y∈(p.2.2.1.getD x.toNat n0).2.2.2,y∈l):l=needF p:=by
 refine sorted_ext hs (needT_sorted _ _) fun x=>⟨fun hx=>?_,fun hx=>?_⟩
 · obtain ⟨h1,h2,h3⟩:=hr x hx
   exact need_mem.2 ⟨x.toNat,by omega,h3,by omega⟩
 · obtain ⟨i,h1,h2,rfl⟩:=need_mem.1 hx
   have hpos :∀x∈p.2.2.2,((x.toNat:Nat):Int)=x:=fun x hx=>by have:=idxs_at (formedB_parts hF).2.2.2.2.2.1 hx; omega
   refine marks_least hF (fun i=>(i:Int)∈l) (fun i hi h y hy=>?_) (fun y hy=>by rw [hpos y hy]; exact ho y hy) i h2
   have hy0:=idxs_at (froms_of hF i hi).2 hy
   have:=hc (i:Int) h y (by rw [Int.toNat_natCast]; exact hy)
   rwa [show ((y.toNat:Nat):Int)=y by omega]
open Go.RowKit
def linKB (k:Int):Bool:=[1,3,4,5,6,7,8,17].contains k
def linB (p:PatchD):Bool:=(needF p).all fun i=>linKB (p.2.2.1.getD i.toNat n0).1
def cellN (ns:List NodeD):Nat:=(ns.map fun n=>(startV n).length).sum
def offN (ns:List NodeD) (k:Nat):Nat:=cellN (ns.take k)
def setS:List NodeD→List Int→List (List Int)
 | [],_=>[]
 | n::ns,c=>c.take (startV n).length::setS ns (c.drop (startV n).length)
theorem setS_len :∀(ns:List NodeD) (c:List Int),(setS ns c).length=ns.length:=by
 intro ns
 induction ns with
 | nil=>intro c; rfl
 | cons n ns ih=>intro c; simp [setS,ih]
theorem offN_next {ns:List NodeD} {k:Nat} (h:k < ns.length):offN ns (k+1)=offN ns k+(startV (ns.getD k n0)).length:=by
 unfold offN cellN;rw [take_next (d:=n0) h,List.map_append,List.sum_append]; simp
theorem offN_le {ns:List NodeD} :∀{k:Nat},k≤ns.length→offN ns k≤cellN ns:=by
 intro k hk
 unfold offN cellN;have e:ns=ns.take k++ns.drop k:=(List.take_append_drop k ns).symm
 conv=>rhs; rw [e]
 rw [List.map_append,List.sum_append]; omega
theorem offN_all {ns:List NodeD} {k:Nat} (h:ns.length≤k):offN ns k=cellN ns:=by unfold offN; rw [List.take_of_length_le h]
theorem setS_at :∀{ns:List NodeD} {c:List Int} {k:Nat},k < ns.length→(setS ns c).getD k []=(c.drop (offN ns k)).take (startV (ns.getD k n0)).length:=by
 intro ns
 induction ns with
 | nil=>intro c k h; simp at h
 | cons n ns ih =>
   intro c k h
   cases k with
   | zero=>simp [setS,offN,cellN]
   | succ k =>
     have:=ih (c:=c.drop (startV n).length) (k:=k) (by simpa using h)
     simp only[setS,List.getD_cons_succ,this,List.drop_drop]
     congr 2
theorem setS_next {ns:List NodeD} {c:List Int} {k:Nat} (h:k < ns.length):(setS ns c).take k++[(c.drop (offN ns k)).take (startV (ns.getD k n0)).length]=(setS ns c).take (k+1):=by
 rw [← setS_at h]; exact (take_next (by rw [setS_len]; exact h)).symm
theorem cell_len {ns:List NodeD} {c:List Int} (hc:c.length=cellN ns) {k:Nat} (h:k < ns.length):((setS ns c).getD k []).length=(startV (ns.getD k n0)).length:=by
 have h1:=offN_next h
 have h2:=offN_le (ns:=ns) (k:=k+1) (by omega)
 rw [setS_at h,List.length_take,List.length_drop]; omega
theorem smps_take {xs:List Int} (h:smps xs=true) (n:Nat):smps (xs.take n)=true:=smps_iff.2 fun x hx=>smps_iff.1 h x (List.mem_of_mem_take hx)
theorem setS_ok {q:PatchD} {c:List Int} (hc:c.length=cellN q.2.2.1) (hs:smps c=true):StOk q (setS q.2.2.1 c) :=
 ⟨setS_len _ _,fun i hi=>⟨cell_len hc hi,by rw [setS_at hi]; exact smps_take (smps_drop hs _) _⟩⟩
theorem flat_len {q:PatchD} {s:List (List Int)} (h:StOk q s):s.flatten.length=cellN q.2.2.1:=by
 rw [List.length_flatten];unfold cellN
 congr 1
 refine List.ext_getElem (by simp [h.1]) fun i h1 h2=>?_
 have hi:i < q.2.2.1.length:=by simpa using h2
 have hi':i < s.length:=by rw [h.1]; exact hi
 have:=(h.2 i hi).1
 simp only[List.getElem_map];simpa [List.getD,hi,hi'] using this
def zerL (n:Nat):List Int:=List.replicate n 0
def unitL (n i:Nat):List Int:=(zerL n).set i 1
theorem zerL_ok (n:Nat):(zerL n).length=n∧smps (zerL n)=true:=⟨by simp [zerL],smps_iff.2 fun x hx=>by rw [(List.mem_replicate.1 hx).2]; rfl⟩
theorem unitL_ok (n i:Nat):(unitL n i).length=n∧smps (unitL n i)=true:=⟨by simp [unitL,zerL],smps_set (zerL_ok n).2 rfl⟩
def colM (q:PatchD) (c fr:List Int):List Int × List Int:=((nextL q (setS q.2.2.1 c) fr (valsL q (setS q.2.2.1 c) fr)).flatten,outsL q (valsL q (setS q.2.2.1 c) fr))
theorem colM_len {q:PatchD} (hF:formedB q=true) {c fr:List Int} (hc:c.length=cellN q.2.2.1) (hs:smps c=true) (hf:smps fr=true):(colM q c fr).1.length=cellN q.2.2.1∧(colM q c fr).2.length=q.2.2.2.length :=
 ⟨flat_len (nextL_ok hF (setS_ok hc hs) hf (valsL_ok' hF (setS_ok hc hs) hf)),outsL_len _ _⟩
abbrev LinD:=Int × List (List Int) × List (List Int) × List (List Int) × List (List Int)
def matC (cols:Nat→List Int) (rows wd:Nat):List (List Int):=(List.range rows).map fun i=>(List.range wd).map fun j=>(cols j).getD i 0
theorem matC_len (cols:Nat→List Int) (rows wd:Nat):(matC cols rows wd).length=rows:=by simp [matC]
theorem matC_at {cols:Nat→List Int} {rows wd i:Nat} (h:i < rows):(matC cols rows wd).getD i []=(List.range wd).map fun j=>(cols j).getD i 0:=by simp [matC,List.getD,h]
def stC (q:PatchD) (j:Nat):List Int × List Int:=colM q (unitL (cellN q.2.2.1) j) (zerL q.1.toNat)
def inC (q:PatchD) (j:Nat):List Int × List Int:=colM q (zerL (cellN q.2.2.1)) (unitL q.1.toNat j)
def linM (q:PatchD):LinD:=(q.1,matC (fun j=>(stC q j).1) (cellN q.2.2.1) (cellN q.2.2.1),matC (fun j=>(inC q j).1) (cellN q.2.2.1) q.1.toNat,matC (fun j=>(stC q j).2) q.2.2.2.length (cellN q.2.2.1),matC (fun j=>(inC q j).2) q.2.2.2.length q.1.toNat)
def linCode (p:PatchD):Int:=match patchB p with
 | false=>1
 | true=>match linB p with
   | false=>6
   | true=>match decide (24 < cellN (trimP p).2.2.1) with
     | true=>5
     | false=>0
theorem linCode_1 {p:PatchD} (h:patchB p=false):linCode p=1:=by unfold linCode; rw [h]
theorem linCode_6 {p:PatchD} (h:patchB p=true) (k:linB p=false):linCode p=6:=by unfold linCode; rw [h,k]
theorem linCode_5 {p:PatchD} (h:patchB p=true) (k:linB p=true) (l:24 < cellN (trimP p).2.2.1):linCode p=5:=by unfold linCode; rw [h,k,decide_eq_true l]
theorem linCode_0 {p:PatchD} (h:patchB p=true) (k:linB p=true) (l:cellN (trimP p).2.2.1≤24):linCode p=0:=by unfold linCode; rw [h,k,decide_eq_false (by omega)]
theorem trim_map (p:PatchD):(trimP p).2.2.1=(needF p).map fun i=>mrgX (byT p) (p.2.2.1.getD i.toNat n0):=rfl
theorem trim_lin (p:PatchD):((trimP p).2.2.1.all fun n=>linKB n.1)=linB p:=by
 rw [trim_map,List.all_map]; rfl
theorem trim_cells (p:PatchD):cellN (trimP p).2.2.1=((needF p).map fun i=>(startV (p.2.2.1.getD i.toNat n0)).length).sum:=by
 rw [trim_map]; unfold cellN; rw [List.map_map]; rfl
open Go.RowKit
theorem drop_getD {xs:List Int} {k:Nat} (h:k < xs.length):xs.drop k=xs.getD k 0::xs.drop (k+1):=by
 rw [List.drop_eq_getElem_cons h]; congr 1; simp [List.getD,h]
theorem put_new {xs:List Int} {m:Int} {k:Nat} (hk:k < xs.length) (hl :∀x∈xs.take k,x < m) (h:m < xs.getD k 0):(xs.take k++[m]++[xs.getD k 0])++xs.drop (k+1)=putL xs m:=by
 have e:xs=xs.take k++xs.drop k:=(List.take_append_drop k xs).symm
 conv=>rhs; rw [e]
 rw [putL_app hl,drop_getD hk,putL_new h]; simp
theorem put_old {xs:List Int} {m:Int} {k:Nat} (hk:k < xs.length) (hl :∀x∈xs.take k,x < m) (h:xs.getD k 0=m):(xs.take k++[xs.getD k 0])++xs.drop (k+1)=putL xs m:=by
 have e:xs=xs.take k++xs.drop k:=(List.take_append_drop k xs).symm
 conv=>rhs; rw [e]
 rw [putL_app hl,drop_getD hk,h,putL_old]; simp
theorem put_keep {xs out y:List Int} {k:Nat} (hk:k < xs.length) (h:out++xs.drop k=y):(out++[xs.getD k 0])++xs.drop (k+1)=y:=by rw [← h,drop_getD hk]; simp
theorem put_end {xs:List Int} {m:Int} (hl :∀x∈xs,x < m):xs++[m]=putL xs m:=by
 have:=putL_app (m:=[]) hl
 rw [List.append_nil] at this;rw [this]; rfl
theorem take_lt {xs:List Int} {m:Int} {k:Nat} (hk:k < xs.length) (hl :∀x∈xs.take k,x < m) (h:xs.getD k 0 < m) :∀x∈xs.take (k+1),x < m:=fun x hx=>by
 rw [take_next (d:=0) hk,List.mem_append,List.mem_singleton] at hx
 rcases hx with hx | rfl
 · exact hl x hx
 · exact h
theorem put_fin0 {xs ou:List Int} {m:Int} {dn:Bool} (hf:dn=false→ou=xs.take xs.length∧∀ x∈xs.take xs.length,x < m) (h:dn=false):ou++[m]=putL xs m:=by
 obtain ⟨e,hl⟩:=hf h
 rw [List.take_of_length_le (Nat.le_refl _)] at e hl
 subst e;exact put_end hl
theorem put_fin1 {xs ou:List Int} {m:Int} {dn:Bool} (ht:dn=true→ou++xs.drop xs.length=putL xs m) (h:dn=true):ou=putL xs m:=by
 have:=ht h
 rwa [List.drop_of_length_le (Nat.le_refl _),List.append_nil] at this
theorem putL_has {a:Int} :∀{l:List Int},l.Pairwise (· < ·)→a∈l→putL l a=l:=by
 intro l
 induction l with
 | nil=>intro _ h; cases h
 | cons y l ih =>
   intro hs h
   obtain ⟨h1,h2⟩:=List.pairwise_cons.1 hs
   rcases List.mem_cons.1 h with rfl | h
   · exact putL_old
   · have:=h1 a h
     unfold putL;rw [decide_eq_true this,ih h2 h]
theorem putL_len {a:Int} :∀{l:List Int},l.length≤(putL l a).length∧(putL l a).length≤l.length+1:=by
 intro l
 induction l with
 | nil=>simp [putL]
 | cons y l ih =>
   unfold putL
   split
   · simp only[List.length_cons]; omega
   · split<;>simp
theorem putL_more {a:Int} :∀{l:List Int},a ∉ l→(putL l a).length=l.length+1:=by
 intro l
 induction l with
 | nil=>intro _; rfl
 | cons y l ih =>
   intro h;simp only[List.mem_cons,not_or] at h
   unfold putL
   split
   · simp only[List.length_cons,ih h.2]
   · split
     · rename_i e; exact absurd (of_decide_eq_true e).symm h.1
     · simp
def putsL (l m:List Int):List Int:=m.foldl putL l
theorem putsL_snoc (l m:List Int) (x:Int):putsL l (m++[x])=putL (putsL l m) x:=by simp [putsL,List.foldl_append]
theorem putsL_next {l m:List Int} {k:Nat} (h:k < m.length):putsL l (m.take (k+1))=putL (putsL l (m.take k)) (m.getD k 0):=by rw [take_next (d:=0) h,putsL_snoc]
theorem putsL_ok :∀{m l:List Int},l.Pairwise (· < ·)→(putsL l m).Pairwise (· < ·)∧(∀ x,x∈putsL l m↔x∈l∨x∈m)∧l.length≤(putsL l m).length∧((putsL l m).length≤l.length→putsL l m=l):=by
 intro m
 induction m with
 | nil=>intro l h; exact ⟨h,fun x=>by simp [putsL],Nat.le_refl _,fun _=>rfl⟩
 | cons a m ih =>
   intro l h
   obtain ⟨i1,i2,i3,i4⟩:=ih (putL_sorted (a:=a) h)
   have hl:=putL_len (a:=a) (l:=l)
   refine ⟨i1,fun x=>?_,Nat.le_trans hl.1 i3,fun hle=>?_⟩
   · show x∈putsL (putL l a) m↔_
     rw [i2,putL_mem,List.mem_cons]
     constructor
     · rintro ((h | h) | h)
       · exact .inr (.inl h)
       · exact .inl h
       · exact .inr (.inr h)
     · rintro (h | h | h)
       · exact .inl (.inr h)
       · exact .inl (.inl h)
       · exact .inr h
   · have hle:(putsL (putL l a) m).length≤l.length:=hle
     have hin:a∈l:=by
      apply Classical.byContradiction
      intro hc;have:=putL_more hc
      omega
     show putsL (putL l a) m=l
     rw [putL_has h hin] at i4 hle ⊢
     exact i4 hle
def rndL (ns:List NodeD) (out:List Int):Nat→List Int
 | 0=>out
 | k+1=>putsL (rndL ns out k) (ns.getD (out.getD k 0).toNat n0).2.2.2
theorem rndL_ok {ns:List NodeD} {out:List Int} (h:out.Pairwise (· < ·)) :∀k,(rndL ns out k).Pairwise (· < ·)∧(∀ x,x∈rndL ns out k↔x∈out∨∃ i,i < k∧x∈(ns.getD (out.getD i 0).toNat n0).2.2.2)∧out.length≤(rndL ns out k).length∧((rndL ns out k).length≤out.length→rndL ns out k=out):=by
 intro k
 induction k with
 | zero=>exact ⟨h,fun x=>by simp [rndL],Nat.le_refl _,fun _=>rfl⟩
 | succ k ih =>
   obtain ⟨i1,i2,i3,i4⟩:=ih;obtain ⟨j1,j2,j3,j4⟩:=putsL_ok (m:=(ns.getD (out.getD k 0).toNat n0).2.2.2) i1
   refine ⟨j1,fun x=>?_,Nat.le_trans i3 j3,fun hle=>?_⟩
   · show x∈putsL _ _↔_
     rw [j2,i2]
     constructor
     · rintro ((h | ⟨i,hi,h⟩) | h)
       · exact .inl h
       · exact .inr ⟨i,by omega,h⟩
       · exact .inr ⟨k,by omega,h⟩
     · rintro (h | ⟨i,hi,h⟩)
       · exact .inl (.inl h)
       · rcases Nat.lt_succ_iff_lt_or_eq.1 hi with hi | rfl
         · exact .inl (.inr ⟨i,hi,h⟩)
         · exact .inr h
   · have hle:(putsL (rndL ns out k) (ns.getD (out.getD k 0).toNat n0).2.2.2).length≤out.length:=hle
     have e:=i4 (by omega)
     show putsL (rndL ns out k) _=out
     rw [e] at j4 ⊢
     exact j4 (by rw [e] at hle; exact hle)
structure NOk (p:PatchD) (l:List Int):Prop where
 srt:l.Pairwise (· < ·)
 rng :∀x∈l,0≤x∧x < p.2.2.1.length∧(marksF p).getD x.toNat false=true
 outs :∀x∈p.2.2.2,x∈l
def NClosed (p:PatchD) (l:List Int):Prop:=∀ x∈l,∀ y∈(p.2.2.1.getD x.toNat n0).2.2.2,y∈l
theorem NOk.fin {p:PatchD} (hF:formedB p=true) {l:List Int} (h:NOk p l) (hc:NClosed p l):l=needF p:=need_eq hF h.srt h.rng h.outs hc
theorem NOk.len {p:PatchD} {l:List Int} (h:NOk p l):l.length≤p.2.2.1.length:=rising_len h.srt fun x hx=>by have:=h.rng x hx; exact ⟨this.1,this.2.1⟩
theorem outs_nok {p:PatchD} (hF:formedB p=true):NOk p (putsL [] p.2.2.2):=by
 obtain ⟨h1,h2,_⟩:=putsL_ok (m:=p.2.2.2) (l:=[]) List.Pairwise.nil
 refine ⟨h1,fun x hx=>?_,fun x hx=>(h2 x).2 (.inr hx)⟩
 rcases (h2 x).1 hx with h | h
 · cases h
 · have:=idxs_at (formedB_parts hF).2.2.2.2.2.1 h
   exact ⟨this.1,by omega,marks_out hF h⟩
theorem put_small {p:PatchD} (hF:formedB p=true) (k:Nat):(putsL [] (p.2.2.2.take k)).length≤4:=by
 have :∀m:List Int,(putsL [] m).length≤m.length:=by
  intro m
  have key :∀(m l:List Int),(putsL l m).length≤l.length+m.length:=by
   intro m
   induction m with
   | nil=>intro l; simp [putsL]
   | cons a m ih=>intro l; have:=ih (putL l a); have h2:=putL_len (a:=a) (l:=l); show (putsL (putL l a) m).length≤_; simp only[List.length_cons]; omega
  simpa using key m []
 have h1:=this (p.2.2.2.take k)
 have h2:=(formedB_parts hF).2.1
 rw [List.length_take] at h1; omega
theorem rnd_len {p:PatchD} (hF:formedB p=true) {l:List Int} (h:NOk p l) {k:Nat} (hk:k≤l.length):NOk p (rndL p.2.2.1 l k):=by
 obtain ⟨h1,h2,_⟩:=rndL_ok (ns:=p.2.2.1) h.srt k
 refine ⟨h1,fun x hx=>?_,fun x hx=>(h2 x).2 (.inl (h.outs x hx))⟩
 rcases (h2 x).1 hx with hx | ⟨i,hi,hx⟩
 · exact h.rng x hx
 · obtain ⟨r1,r2,r3⟩:=h.rng _ (getD_mem (d:=(0:Int)) (show i < l.length by omega))
   have:=idxs_at (froms_of hF _ (show (l.getD i 0).toNat < p.2.2.1.length by omega)).2 hx
   exact ⟨this.1,by omega,marks_from hF (by omega) r3 hx⟩
theorem rnd_part {p:PatchD} (hF:formedB p=true) {l:List Int} (h:NOk p l) {k j:Nat} (hk:k < l.length):(putsL (rndL p.2.2.1 l k) ((p.2.2.1.getD (l.getD k 0).toNat n0).2.2.2.take j)).length≤p.2.2.1.length+3:=by
 have key :∀(m l:List Int),(putsL l m).length≤l.length+m.length:=by
  intro m
  induction m with
  | nil=>intro l; simp [putsL]
  | cons a m ih=>intro l; have:=ih (putL l a); have h2:=putL_len (a:=a) (l:=l); show (putsL (putL l a) m).length≤_; simp only[List.length_cons]; omega
 have h1:=key ((p.2.2.1.getD (l.getD k 0).toNat n0).2.2.2.take j) (rndL p.2.2.1 l k)
 have h2:=(rnd_len hF h (k:=k) (by omega)).len
 obtain ⟨r1,r2,_⟩:=h.rng _ (getD_mem (d:=(0:Int)) hk)
 have h3:=(froms_of hF _ (show (l.getD k 0).toNat < p.2.2.1.length by omega)).1
 rw [List.length_take] at h1; omega
theorem rnd_done {p:PatchD} {l:List Int} (h:NOk p l) (hl:(rndL p.2.2.1 l l.length).length≤l.length):NClosed p (rndL p.2.2.1 l l.length):=by
 obtain ⟨_,h2,_,h4⟩:=rndL_ok (ns:=p.2.2.1) h.srt l.length
 have e:=h4 hl
 intro x hx y hy
 rw [e] at hx;obtain ⟨i,hi,rfl⟩:=List.mem_iff_getElem.1 hx
 refine (h2 y).2 (.inr ⟨i,hi,?_⟩)
 have:l.getD i 0=l[i]:=by simp [List.getD,hi]
 rw [this]; exact hy
open Go.RowKit
theorem linKB_or (x:Int):(x == 1 || (x == 3 || (x == 4 || (x == 5 || (x == 6 || (x == 7 || (x == 8 || x == 17)))))))=linKB x:=by
 unfold linKB;simp only[List.contains_cons,List.contains_nil,Bool.or_false]
theorem nodeB_mono {n:NodeD} {a b:Int} (h:nodeB n a=true) (hab:a≤b):nodeB n b=true:=by
 unfold nodeB at h ⊢
 simp only[Bool.and_eq_true,Bool.or_eq_true,Bool.not_eq_true',decide_eq_false_iff_not,decide_eq_true_eq] at h ⊢
 exact ⟨h.1,h.2.imp id fun g=>by omega⟩
theorem nodeB_4 {p:PatchD} (hF:formedB p=true) {i:Nat} (hi:i < p.2.2.1.length):nodeB (p.2.2.1.getD i n0) 4=true:=by
 have h:=(nodeIn_parts (node_at hF hi)).1
 refine nodeB_mono h ?_
 have ht:tabsB p.2.1=true:=by
  unfold formedB at hF;simp only[Bool.and_eq_true] at hF
  exact hF.1.1.1.1.2
 unfold tabsB at ht;simp only[Bool.and_eq_true,decide_eq_true_eq] at ht
 omega
theorem start_16 {p:PatchD} (hF:formedB p=true) {i:Nat} (hi:i < p.2.2.1.length):(startV (p.2.2.1.getD i n0)).length≤16:=startV_len' (nodeB_4 hF hi)
theorem offN_16 {p:PatchD} (hF:formedB p=true) :∀k,k≤p.2.2.1.length→offN p.2.2.1 k≤16 * k:=by
 intro k
 induction k with
 | zero=>intro _; simp [offN,cellN]
 | succ k ih =>
   intro h;have h1:=ih (by omega)
   have h2:=offN_next (ns:=p.2.2.1) (k:=k) (by omega)
   have h3:=start_16 hF (i:=k) (by omega)
   omega
theorem cellN_384 {p:PatchD} (hF:formedB p=true):cellN p.2.2.1≤384:=by
 have h1:=offN_16 hF _ (Nat.le_refl _)
 rw [offN_all (Nat.le_refl _)] at h1
 have:=(formedB_parts hF).1
 omega
theorem flat_next {xs:List (List Int)} {k:Nat} (h:k < xs.length):(xs.take k).flatten++xs.getD k []=(xs.take (k+1)).flatten:=by
 rw [take_next (d:=([]:List Int)) h,List.flatten_append]; simp
theorem flat_le {xs:List (List Int)} {k:Nat} (h:k < xs.length):(xs.take k).flatten.length+(xs.getD k []).length≤xs.flatten.length:=by
 rw [← List.length_append,flat_next h]
 conv=>rhs; rw [← List.take_append_drop (k+1) xs]
 rw [List.flatten_append,List.length_append]; omega
theorem flat_done {xs:List (List Int)} {k:Nat} (h:xs.length≤k):(xs.take k).flatten=xs.flatten:=by rw [List.take_of_length_le h]
theorem rnd_last {ns:List NodeD} {l:List Int} {k:Nat} {F:List Int} (hF:F=(ns.getD (l.getD k 0).toNat n0).2.2.2) {j:Nat} (hj:F.length≤j):putsL (rndL ns l k) (F.take j)=rndL ns l (k+1):=by
 rw [List.take_of_length_le hj,hF]; rfl
open Go.RowKit
end Go.Proofs.YtgmabhkmiokiaaaGreat
