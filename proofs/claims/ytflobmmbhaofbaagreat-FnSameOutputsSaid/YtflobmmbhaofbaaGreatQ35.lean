/-
  Texts of this claim, joined (part 35). No condition beyond those of the theorems.
-/
import Derived.Test.YtflobmmbhaofbaaGreatQ27
import Derived.Test.YtflobmmbhaofbaaGreatQ34
import Derived.Test.YtflobmmbhaofbaaGreatQ19
namespace Go.Proofs.YtflobmmbhaofbaaGreat
open Go.RowKit
set_option linter.unusedSimpArgs false
set_option linter.unusedVariables false
set_option maxRecDepth 100000
set_option maxHeartbeats 8000000
def B1w:F8:=fun f=>match A66 f with
 | some k=>some k
 | none=>A48 f
theorem R9:B8 Tryz.prog B1w:=T3 B21 A9Q
attribute [go_sem] B1w T0
def A0U:Con:=⟨[.ptr (.prod (.int .i64) (.prod (.row 26 (.row 2 (.int .i64))) (.prod (.row 56 (.prod (.int .i64) (.prod (.int .i64) (.prod (.int .i64) (.row 2 (.int .i64)))))) (.row 2 (.int .i64)))))],[⟨(.prod (.int .i64) (.int .i64)),true⟩,⟨.bool,true⟩],fun x=>C5 x.1=true,fun x=>A7D x.1⟩
theorem B3H:D4 Tryz.prog 80 A0U:=by
  refine A7 Tryz.func80 rfl ?_
  have hres:Tryz.f80.results.toList=[.cell 2 117,.tmp 3]:=rfl
  rintro⟨⟨(pi:Int),(ts:List (List Int)),(ns:List A4),(os:List Int)⟩,_⟩ hc hL
  simp only[A0U,go_sem] at hL
  simp only[A0U,St.init,St.initG,Tryz.ntmps80,go_sem] 
  have hF:C5 (pi,ts,ns,os)=true:=hc
  have hnr:∀j∈(F0 (pi,ts,ns,os)),0≤j∧j < ns.length:=fun j h=>M7 h
  have hnl:(F0 (pi,ts,ns,os)).length≤24:=Nat.le_trans (A6M (S4 (pi,ts,ns,os)) ns.length) (A8 hF).1
  refine oS fun _ hK1=>?_;refine oW R9 ?_;simp only[go_sem];refine hK1 _ ?_;refine oS fun _ hK2=>?_;refine oW R9 ?_;simp only[go_sem];repeat(with_reducible first|refine oA ?_|refine And.intro (by first|exact hF) ?_)
  refine hK2 _ ?_;refine oS fun _ hK3=>?_;refine oS fun _ hK4=>?_;refine oW R9 ?_;simp only[go_sem];refine hK4 _ ?_;refine A5 ?_;refine B4 (ι:={ k:Nat // k≤(F0 (pi,ts,ns,os)).length∧∀j,j < k→(s6 (pi,ts,ns,os) (F0 (pi,ts,ns,os)) ((F0 (pi,ts,ns,os)).getD j 0))=0 }) (fun k=>⟨[.c (.pt [] ((.prod (.int .i64) (.prod (.row 26 (.row 2 (.int .i64))) (.prod (.row 56 (.prod (.int .i64) (.prod (.int .i64) (.prod (.int .i64) (.row 2 (.int .i64)))))) (.row 2 (.int .i64)))))) (pi,ts,ns,os) 0),zz,.c (.po 132 0),zz,.c (.ow 9004),.c (.sc (.int .i64 (k.1))),zz,zz,zz,zz,zz,zz,zz,zz,zz,zz,zz,zz,zz,zz,zz,zz,zz,zz,zz,zz,zz,zz,zz,zz,zz],[(132,.box [.sc (.int .i64 (0)),.sc (.int .i64 (0))]),(9004,.row 2 (.int .i64) ((F0 (pi,ts,ns,os))) [])]⟩) (fun k=>(F0 (pi,ts,ns,os)).length - k.1) ⟨0,by simp,fun j h=>absurd h (Nat.not_lt_zero _)⟩ ?_ ?_
  ·
   refine oK ?_;simp (maxSteps:=2000000)only[go_sem];all_goals((repeat' refine And.intro ?_ ?_)<;>first|rfl|(congr 1;done)|(simp;done))
  rintro⟨k,hk,hp⟩ K5 hL5
  refine oS fun _ hK6=>?_;refine oS fun _ hK7=>?_;refine oW R9 ?_;simp only[go_sem];refine hK7 _ ?_;refine oC rfl ?_ ?_
  ·
   intro c0;have hkl:k < (F0 (pi,ts,ns,os)).length:=by omega
   have hnk:=hnr _ (B9 (d:=(0:Int)) hkl)
   have hrc:C5 (pi,ts,ns,os)=true∧(∀j∈(F0 (pi,ts,ns,os)),0≤j∧j < ns.length)∧0≤(F0 (pi,ts,ns,os)).getD k 0∧(F0 (pi,ts,ns,os)).getD k 0 < ns.length:=⟨hF,hnr,hnk⟩
   refine A3 ?_;simp only[go_sem];refine hK6 _ ?_;refine oS fun _ hK8=>?_;refine A5 ?_;refine oS fun _ hK9=>?_;refine oW R9 ?_;simp (maxSteps:=2000000)only[go_sem];repeat(with_reducible first|refine oA ?_|refine And.intro (by first|omega|exact hrc) ?_)
   refine hK9 _ ?_;refine oS fun _ hK10=>?_;refine oW R9 ?_;simp only[go_sem];refine hK10 _ ?_;refine oC rfl ?_ ?_
   ·
    intro c1;refine oS fun _ hK11=>?_;refine oW R9 ?_;simp (maxSteps:=2000000)only[go_sem];repeat(with_reducible first|refine oA ?_|refine And.intro (by first|omega) ?_)
    refine hK11 _ ?_;refine A2 ?_;simp only[hres,go_sem]
    first
     | exact oF
     | refine ⟨?_, oF⟩
       rw[C2C (p:=(pi,ts,ns,os)) hkl hp (by first|assumption|omega)]
       first|done|rfl|exact⟨rfl,rfl⟩
   intro c1;have hrz:(s6 (pi,ts,ns,os) (F0 (pi,ts,ns,os)) ((F0 (pi,ts,ns,os)).getD k 0))=0:=by first|assumption|omega
   refine A3 ?_;simp only[go_sem];refine hK8 _ ?_;refine oW R9 ?_;simp only[go_sem]
   refine hL5 ⟨k+1,by omega,fun j h=>by
     rcases Nat.lt_succ_iff_lt_or_eq.1 h with h|h
     · exact hp j h
     · subst h;exact hrz⟩ _ (oK ?_) ?_
   ·
    simp (maxSteps:=2000000)only[go_sem];all_goals((repeat' refine And.intro ?_ ?_)<;>first|rfl|exact wk (by omega)|(congr 1;done))
   ·
    first|(simp only[];omega)|omega|(simp;omega)
  intro c0;refine C2 ?_;simp only[go_sem];refine hK3 _ ?_;refine oS fun _ hK12=>?_;refine oW R9 ?_;simp only[go_sem];repeat(with_reducible refine oA ?_)
  refine hK12 _ ?_;refine A2 ?_;simp only[hres,go_sem]
  first
   | exact oF
   | refine ⟨?_, oF⟩
     rw[C0k (p:=(pi,ts,ns,os)) (k:=k) (by omega) hp]
     first|done|rfl|exact⟨rfl,rfl⟩
def A4S:F8:=fun f=>if f=80 then some (.p A0U) else B1w f
theorem M8:B8 Tryz.prog A4S:=F9 B3H (B6 Tryz.func80 rfl (by decide)) R9
attribute [go_sem] A4S A0U
def A3C:Con:=⟨[.ptr (.prod (.int .i64) (.prod (.row 26 (.row 2 (.int .i64))) (.prod (.row 56 (.prod (.int .i64) (.prod (.int .i64) (.prod (.int .i64) (.row 2 (.int .i64)))))) (.row 2 (.int .i64)))))],[⟨(.prod (.int .i64) (.prod (.row 26 (.row 2 (.int .i64))) (.prod (.row 56 (.prod (.int .i64) (.prod (.int .i64) (.prod (.int .i64) (.row 2 (.int .i64)))))) (.row 2 (.int .i64))))),true⟩,⟨(.row 117 (.prod (.int .i64) (.int .i64))),true⟩],fun x=>C7 x.1=true,fun x=>(Z3 (A2a x.1) x.1,A9W x.1 (A2a x.1))⟩
theorem B8E:D4 Tryz.prog 53 A3C:=by
  refine A7 Tryz.func53 rfl ?_
  have hres:Tryz.f53.results.toList=[.cell 2 28,.tmp 3]:=rfl
  rintro⟨⟨(pi:Int),(ts:List (List Int)),(ns:List A4),(os:List Int)⟩,_⟩ hc hL
  simp only[A3C,go_sem] at hL
  simp only[A3C,St.init,St.initG,Tryz.ntmps53,go_sem] 
  have hP:C7 (pi,ts,ns,os)=true:=hc
  have hfp:=X9 (Z8 (p:=(pi,ts,ns,os)) hP)
  have hK6:=C1P hP
  refine oS fun _ hK1=>?_;refine oW M8 ?_;simp only[go_sem];refine hK1 _ ?_;refine oS fun _ hK2=>?_;refine oW M8 ?_;simp only[go_sem];repeat(with_reducible refine oA ?_)
  refine hK2 _ ?_;refine oS fun _ hK3=>?_;refine oW M8 ?_;simp only[List.nodup_cons,List.nodup_nil,List.not_mem_nil,not_false_eq_true,go_sem];repeat(with_reducible first|refine oA ?_|refine And.intro (by first|exact hfp) ?_)
  refine hK3 _ ?_;refine A5 ?_;refine B4 (ι:={ k:Nat // k≤A2a (pi,ts,ns,os) }) (fun k=>⟨[zz,zz,.c (.po 132 0),zz,.c (.ow 9004),.c (.po 180 0),zz,zz,zz,zz,zz,zz,zz,zz,zz,zz,zz,zz,zz,zz,zz,zz,zz,zz,zz,zz,zz,zz],[(132,.box [.sc (.int .i64 (0)),.sc (.slice none 0 0),.sc (.slice none 0 0),.sc (.slice none 0 0)]),(180,.box [.sc (.int .i64 ((Z3 k.1 (pi,ts,ns,os)).1)),.ow 9001,.ow 9002,.ow 9003]),(9001,.tree 26 (.row 2 (.int .i64)) ((Z3 k.1 (pi,ts,ns,os)).2.1) none),(9002,.tree 56 (.prod (.int .i64) (.prod (.int .i64) (.prod (.int .i64) (.row 2 (.int .i64))))) ((Z3 k.1 (pi,ts,ns,os)).2.2.1) none),(9003,.row 2 (.int .i64) ((Z3 k.1 (pi,ts,ns,os)).2.2.2) []),(9004,.row 117 ((.prod (.int .i64) (.int .i64))) (A9W (pi,ts,ns,os) k.1) [])]⟩) (fun k=>A2a (pi,ts,ns,os) - k.1) ⟨0,Nat.zero_le _⟩ ?_ ?_
  ·
   refine oK ?_;simp (maxSteps:=2000000)only[go_sem];all_goals((repeat' refine And.intro ?_ ?_)<;>first|rfl|(congr 1;done)|(simp;done))
  rintro⟨k,hk⟩ K4 hL4
  have hPk:=B6g hP k
  have hFk:=(A9 hPk).1
  have hwl:=C0v (pi,ts,ns,os) k
  have hrl:(A9W (pi,ts,ns,os) k).length≤60000:=by rw[hwl];omega
  rcases hfm:A7D (Z3 k (pi,ts,ns,os)) with⟨⟨rr,ri⟩,rb⟩
  refine A5 ?_;refine oS fun _ hK5=>?_;refine oW M8 ?_;simp (maxSteps:=2000000)only[List.nodup_cons,List.nodup_nil,List.not_mem_nil,not_false_eq_true,hfm,go_sem];repeat(with_reducible first|refine oA ?_|refine And.intro (by first|exact hFk) ?_)
  refine hK5 _ ?_;refine oS fun _ hK6=>?_;refine oS fun _ hK7=>?_;refine oW M8 ?_;simp only[go_sem];repeat(with_reducible refine oA ?_)
  refine hK7 _ ?_;refine oC rfl ?_ ?_
  ·
   intro c0;have hrb:rb=false:=by first|assumption|(clear hK1 hK2 hK3 hL4 hK5 hK6 hK7;simp_all)
   subst hrb;have hkk:=C2J hP hk (C3e hfm)
   subst hkk;refine oS fun _ hK8=>?_;refine oW M8 ?_;simp only[go_sem];repeat(with_reducible refine oA ?_)
   refine hK8 _ ?_;refine A2 ?_;simp only[hres,go_sem];first|exact oF|(refine⟨?_,oF⟩;first|rfl|exact⟨rfl,rfl⟩)
  intro c0;have hrb:rb=true:=by first|assumption|(clear hK1 hK2 hK3 hL4 hK5 hK6 hK7;simp_all)
  subst hrb;have hfs:=C3i hfm
  obtain⟨hm1,hm2⟩:=A4d hfs
  have hlt:=C2i hP hk (by rw[hfs];simp)
  have hca:C7 (Z3 k (pi,ts,ns,os))=true∧ri∈F0 (Z3 k (pi,ts,ns,os))∧RulI (Z3 k (pi,ts,ns,os)) ri rr:=⟨hPk,hm1,hm2⟩
  have hnx:U7 (Z3 k (pi,ts,ns,os)) rr ri=(Z3 (k+1) (pi,ts,ns,os)):=by show _=A75 (Z3 k (pi,ts,ns,os));unfold A75;rw[hfs]
  have hrn:A9W (pi,ts,ns,os) k++[(rr,ri)]=A9W (pi,ts,ns,os) (k+1):=by rw[←B7x,hfm]
  refine A3 ?_;simp only[go_sem];refine hK6 _ ?_;refine oS fun _ hK9=>?_;refine oW M8 ?_;simp (maxSteps:=2000000)only[go_sem];repeat(with_reducible first|refine oA ?_|refine And.intro (by first|omega) ?_)
  refine hK9 _ ?_;refine oW M8 ?_;simp (maxSteps:=2000000)only[List.nodup_cons,List.nodup_nil,List.not_mem_nil,not_false_eq_true,hnx,go_sem];repeat(with_reducible first|refine oA ?_|refine And.intro (by first|exact hca) ?_)
  refine hL4 ⟨k+1,hlt⟩ _ (oK ?_) ?_
  ·
   simp (maxSteps:=2000000)only[go_sem];all_goals((repeat' refine And.intro ?_ ?_)<;>first|rfl|exact wk (by omega)|exact hnx|(congr 1;exact hnx)|exact hrn|(congr 1;exact hrn)|(congr 1;done))
  ·
   first|(simp only[];omega)|omega|(simp;omega)
def A8u:F8:=fun f=>if f=53 then some (.p A3C) else A4S f
theorem A0o:B8 Tryz.prog A8u:=F9 B8E (B6 Tryz.func53 rfl (by decide)) M8
attribute [go_sem] A8u A3C
def A2q:Con:=⟨[.ptr (.prod (.int .i64) (.prod (.row 26 (.row 2 (.int .i64))) (.prod (.row 56 (.prod (.int .i64) (.prod (.int .i64) (.prod (.int .i64) (.row 2 (.int .i64)))))) (.row 2 (.int .i64)))))],[⟨(.prod (.int .i64) (.prod (.row 26 (.row 2 (.int .i64))) (.prod (.row 56 (.prod (.int .i64) (.prod (.int .i64) (.prod (.int .i64) (.row 2 (.int .i64)))))) (.row 2 (.int .i64))))),true⟩],fun x=>C7 x.1=true,fun x=>C3H x.1⟩
theorem B8a:D4 Tryz.prog 29 A2q:=by
  refine A7 Tryz.func29 rfl ?_
  have hres:Tryz.f29.results.toList=[.cell 2 28]:=rfl
  rintro⟨⟨(pi:Int),(ts:List (List Int)),(ns:List A4),(os:List Int)⟩,_⟩ hc hL
  simp only[A2q,go_sem] at hL
  simp only[A2q,St.init,St.initG,Tryz.ntmps29,go_sem] 
  have hP:C7 (pi,ts,ns,os)=true:=hc
  have hPk:=B6g hP (A2a (pi,ts,ns,os))
  have hFk:=(A9 hPk).1
  refine oS fun _ hK1=>?_;refine oW A0o ?_;simp only[go_sem];refine hK1 _ ?_;refine oS fun _ hK2=>?_;refine oW A0o ?_;simp (maxSteps:=2000000)only[List.nodup_cons,List.nodup_nil,List.not_mem_nil,not_false_eq_true,go_sem];repeat(with_reducible first|refine oA ?_|refine And.intro (by first|exact hP) ?_)
  refine hK2 _ ?_;refine oS fun _ hK3=>?_;refine oW A0o ?_;simp only[List.nodup_cons,List.nodup_nil,List.not_mem_nil,not_false_eq_true,go_sem];repeat(with_reducible first|refine oA ?_|refine And.intro (by first|exact hFk|with_unfolding_all exact B84 hPk) ?_)
  refine hK3 _ ?_;refine A2 ?_;simp only[hres,go_sem];first|exact oF|exact oFr
def A8G:F8:=fun f=>if f=29 then some (.p A2q) else A8u f
theorem B3u:B8 Tryz.prog A8G:=F9 B8a (B6 Tryz.func29 rfl (by decide)) A0o
attribute [go_sem] A8G A2q
section
variable {p q:A6}
theorem B09 (h:j8 p q=0) (hl:¬p.2.2.2.length=q.2.2.2.length):r5 p q=(false,0):=by
 rw[A0q h]
 have:eqD ((M3 p q).take p.2.2.2.length) ((M3 p q).drop p.2.2.2.length)=false:=decide_eq_false fun e=>hl (by
  have:=congrArg List.length e
  rw[List.length_take,List.length_drop,z7] at this;omega)
 rw[this]
theorem B48 {k:Nat} (h:k < (M3 p q).length):(M3 p q).getD k 0=(H1 (S9 p q).2.1 (S9 p q).2.2.1).getD ((S9 p q).2.2.2.getD k 0).toNat 0:=by
 have h2:k < (S9 p q).2.2.2.length:=by simpa [M3] using h
 simp[M3,List.getD,h2]
theorem B2L {α:Type} {l:List α} {n k:Nat} {d:α} (h:k < n):(l.take n).getD k d=l.getD k d:=by
 simp[List.getD,h]
theorem B2P {α:Type} {l:List α} {n k:Nat} {d:α}:(l.drop n).getD k d=l.getD (n+k) d:=by
 simp[List.getD,List.getElem?_drop]
theorem B2v (h:j8 p q=0) {k:Nat} (hk:k < p.2.2.2.length) (hne:¬(M3 p q).getD k 0=(M3 p q).getD (p.2.2.2.length+k) 0):r5 p q=(false,0):=by
 rw[A0q h]
 have:eqD ((M3 p q).take p.2.2.2.length) ((M3 p q).drop p.2.2.2.length)=false:=decide_eq_false fun e=>hne (by
  have:=congrArg (fun z=>z.getD k 0) e
  simpa only [B2L hk,B2P] using this)
 rw[this]
theorem A5G (h:j8 p q=0) (hl:p.2.2.2.length=q.2.2.2.length) (he:∀k,k < p.2.2.2.length→(M3 p q).getD k 0=(M3 p q).getD (p.2.2.2.length+k) 0):r5 p q=(true,0):=by
 rw[A0q h]
 have:eqD ((M3 p q).take p.2.2.2.length) ((M3 p q).drop p.2.2.2.length)=true:=decide_eq_true (by
  have hL:=z7 p q
  refine List.ext_getElem (by rw[List.length_take,List.length_drop];omega) fun k h1 h2=>?_
  have hk:k < p.2.2.2.length:=by rw[List.length_take] at h1;omega
  have:=he k hk
  rw[←B2L (n:=p.2.2.2.length) hk,←B2P] at this
  rw[List.getD_eq_getElem?_getD,List.getD_eq_getElem?_getD,List.getElem?_eq_getElem h1,List.getElem?_eq_getElem h2] at this
  exact this)
 rw[this]
end
end Go.Proofs.YtflobmmbhaofbaaGreat
