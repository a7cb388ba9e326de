/-
  Texts of this claim, joined (part 18). No condition beyond those of the theorems.
-/
import Derived.Test.YtflobmmbhaofbaaGreatQ06
import Derived.Test.YtflobmmbhaofbaaGreatQ04
import Derived.Test.YtflobmmbhaofbaaGreatQ02
namespace Go.Proofs.YtflobmmbhaofbaaGreat
open Go.RowKit
set_option linter.unusedSimpArgs false
set_option linter.unusedVariables false
set_option maxRecDepth 100000
set_option maxHeartbeats 4000000
def A3K:Con:=⟨[.val ((.row 2 (.int .i64)))],[⟨(.row 2 (.int .i64)),true⟩],fun x=>x.1.length≤1099511627776,fun x=>x.1⟩
theorem B7D:D4 Tryz.prog 45 A3K:=by
  refine A7 Tryz.func45 rfl ?_
  have hres:Tryz.f45.results.toList=[.tmp 2]:=rfl
  rintro⟨(xs:List Int),_⟩ hc hL
  simp only[A3K,go_sem] at hL
  simp only[A3K,St.init,St.initG,Tryz.ntmps45,go_sem] 
  have hx:xs.length≤1099511627776:=hc
  refine oS fun _ hK1=>?_;refine oW D5 ?_;simp only[go_sem];refine hK1 _ ?_;refine oS fun _ hK2=>?_;refine oW D5 ?_;simp only[go_sem];repeat(with_reducible refine oA ?_)
  refine hK2 _ ?_;refine A2 ?_;simp only[hres,go_sem];first|exact oF|exact oFr
def A8q:F8:=fun f=>if f=45 then some (.p A3K) else y7 f
theorem J6:B8 Tryz.prog A8q:=F9 B7D (B6 Tryz.func45 rfl (by decide)) D5
attribute [go_sem] A8q A3K
def A2v:Con:=⟨[.ptr (.prod (.int .i64) (.prod (.row 26 (.row 2 (.int .i64))) (.prod (.row 56 (.prod (.int .i64) (.prod (.int .i64) (.prod (.int .i64) (.row 2 (.int .i64)))))) (.row 2 (.int .i64)))))],[⟨(.prod (.int .i64) (.prod (.row 26 (.row 2 (.int .i64))) (.prod (.row 56 (.prod (.int .i64) (.prod (.int .i64) (.prod (.int .i64) (.row 2 (.int .i64)))))) (.row 2 (.int .i64))))),true⟩],fun x=>B30 x.1,fun x=>x.1⟩
theorem B8R:D4 Tryz.prog 21 A2v:=by
  refine A7 Tryz.func21 rfl ?_
  have hres:Tryz.f21.results.toList=[.cell 2 28]:=rfl
  rintro⟨⟨(pi:Int),(ts:List (List Int)),(ns:List A4),(os:List Int)⟩,_⟩ hc hL
  simp only[A2v,go_sem] at hL
  simp only[A2v,St.init,St.initG,Tryz.ntmps21,go_sem] 
  obtain⟨⟨hx1,hx2⟩,⟨hy1,hy2⟩,hz⟩:=(show B30 (pi,ts,ns,os) from hc)
  simp only at hx1 hx2 hy1 hy2 hz
  refine oS fun _ hK1=>?_;refine oW J6 ?_;simp only[go_sem];refine hK1 _ ?_;refine oS fun _ hK2=>?_
  refine oR J6
    [[],[0],[0,1],[0,1,2],[],[4],[4,5],[4,5,6],[4,5,6,7],[0,1,2,3,4,5,6,7,8],[],[0,1,2,3,4,5,6,7,8,9,10]]
    [[148,340,341,342,343,344,345,346,347,348,349,350,351,352,353,354,355],[148,340,341,342,343,344,345,346,347,348,349,350,351,352,353,354,355],[148,340,341,342,343,344,345,346,347,348,349,350,351,352,353,354,355],[148,340,341,342,343,344,345,346,347,348,349,350,351,352,353,354,355],[148],[148],[148],[148],[148],[148],[340,341,342,343,344,345,346,347,348,349,350,351,352,353,354,355],[]]
    [[],[],[],[],[],[],[],[],[340,341,342,343,344,345,346,347,348,349,350,351,352,353,354,355],[],[148],[]] (by kernel_rfl) (by kernel_rfl) (B7 (acc:=[]) ?_)
  simp (maxSteps:=2000000)only[go_sem];repeat(with_reducible first|refine oD ?_|refine And.intro (by first|assumption) ?_)
  refine hK2 _ ?_;refine oS fun _ hK3=>?_;refine oS fun _ hK4=>?_;refine oW J6 ?_;simp only[go_sem];refine hK4 _ ?_;refine A5 ?_;refine Q1 (l5 _ 148 1 9001 26 ((.row 2 (.int .i64))) (by decide)) ?_;simp (maxSteps:=2000000)only[go_sem];refine B4 (ι:={ k:Nat // k≤ts.length }) (fun k=>⟨[.c (.pt [] ((.prod (.int .i64) (.prod (.row 26 (.row 2 (.int .i64))) (.prod (.row 56 (.prod (.int .i64) (.prod (.int .i64) (.prod (.int .i64) (.row 2 (.int .i64)))))) (.row 2 (.int .i64)))))) (pi,ts,ns,os) 0),zz,.c (.po 132 0),.c (.po 148 0),.c (.sc (.int .i64 (k.1))),zz,zz,zz,zz,zz,zz,zz,zz,zz,zz,zz,zz,zz,zz,zz,zz,zz,zz,zz,zz,zz,zz,zz,zz,zz,zz,zz,zz,zz,zz,zz,zz,zz,zz,zz,zz,zz,zz,zz,zz,zz,zz,zz,zz,zz,zz,zz,zz,zz,zz,zz,zz,zz,zz,zz,zz,zz,zz,zz,zz,zz],[(132,.box [.sc (.int .i64 (0)),.sc (.slice none 0 0),.sc (.slice none 0 0),.sc (.slice none 0 0)]),(148,.box [.sc (.int .i64 (pi)),.ow 9001,.sc (.slice none 0 0),.ow 9003]),(9001,.tree 26 (.row 2 (.int .i64)) (ts.take k.1) none),(9003,.row 2 (.int .i64) (os) [])]⟩) (fun k=>ts.length - k.1) ⟨0,by simp⟩ ?_ ?_
  ·
   refine oK ?_;simp (maxSteps:=2000000)only[go_sem];all_goals(first|rfl|((repeat' refine And.intro ?_ ?_)<;>first|rfl|simp))
  rintro⟨k,hk⟩ K5 hL5
  have htk:(List.take k ts).length≤1099511627776:=by rw[List.length_take];omega
  have hyk:k < ts.length→(ts.getD k []).length≤1099511627776:=fun h=>hx2 _ (B9 h)
  refine oS fun _ hK6=>?_;refine oS fun _ hK7=>?_;refine oW J6 ?_;simp (maxSteps:=2000000)only[go_sem];repeat(with_reducible refine oA ?_)
  refine hK7 _ ?_;refine oC rfl ?_ ?_
  ·
   intro c0;refine A3 ?_;simp only[go_sem];refine hK6 _ ?_;refine oS fun _ hK8=>?_;refine A5 ?_
   refine oR J6
     [[],[0],[],[2],[2,3],[2,3,4],[],[2,3,4,5,6],[2,3,4,5,6,7],[2,3,4,5,6,7,8],[2,3,4,5,6,7,8,9],[0,1,2,3,4,5,6,7,8,9,10],[0,1,2,3,4,5,6,7,8,9,10,11],[0,1,2,3,4,5,6,7,8,9,10,11,12]]
     [[660,661,662,663,664,665,666,667,668,669,670,671,672,673,674,675,676],[660,661,662,663,664,665,666,667,668,669,670,671,672,673,674,675,676],[],[],[],[],[],[],[],[],[],[],[],[]]
     [[],[],[],[],[],[],[],[],[],[660,661,662,663,664,665,666,667,668,669,670,671,672,673,674,675],[660,661,662,663,664,665,666,667,668,669,670,671,672,673,674,675,676],[],[],[]] (by kernel_rfl) (by kernel_rfl) (B7 (acc:=[]) ?_)
   simp (maxSteps:=2000000)only[List.nodup_cons,List.nodup_nil,List.not_mem_nil,not_false_eq_true,go_sem];repeat(with_reducible first|refine oD ?_|refine And.intro (by first|exact hyk (by omega)) ?_)
   refine hK8 _ ?_;refine oW J6 ?_;simp only[go_sem];refine hL5 ⟨k+1,by omega⟩ _ (oK ?_) ?_
   ·
    simp (maxSteps:=2000000)only[go_sem];all_goals((repeat' refine And.intro ?_ ?_)<;>first|rfl|exact wk (by omega)|(congr 1;exact(G7 (xs:=ts) (k:=k) (d:=[]) (by omega)).symm)|exact(G7 (xs:=ts) (k:=k) (d:=[]) (by omega)).symm|(congr 1;done))
   ·
    first|(simp only[];omega)|omega|(simp;omega)
  intro c0;refine C2 ?_;simp only[go_sem];refine hK3 _ ?_;refine oS fun _ hK9=>?_;refine oS fun _ hK10=>?_;refine oW J6 ?_;simp only[go_sem];refine hK10 _ ?_;refine A5 ?_;refine Q1 (l5 _ 148 2 9002 56 ((.prod (.int .i64) (.prod (.int .i64) (.prod (.int .i64) (.row 2 (.int .i64)))))) (by decide)) ?_;simp (maxSteps:=2000000)only[go_sem];refine B4 (ι:={ k:Nat // k≤ns.length }) (fun k=>⟨[.c (.pt [] ((.prod (.int .i64) (.prod (.row 26 (.row 2 (.int .i64))) (.prod (.row 56 (.prod (.int .i64) (.prod (.int .i64) (.prod (.int .i64) (.row 2 (.int .i64)))))) (.row 2 (.int .i64)))))) (pi,ts,ns,os) 0),zz,.c (.po 132 0),.c (.po 148 0),zz,.c (.sc (.int .i64 (k.1))),zz,zz,zz,zz,zz,zz,zz,zz,zz,zz,zz,zz,zz,zz,zz,zz,zz,zz,zz,zz,zz,zz,zz,zz,zz,zz,zz,zz,zz,zz,zz,zz,zz,zz,zz,zz,zz,zz,zz,zz,zz,zz,zz,zz,zz,zz,zz,zz,zz,zz,zz,zz,zz,zz,zz,zz,zz,zz,zz,zz],[(132,.box [.sc (.int .i64 (0)),.sc (.slice none 0 0),.sc (.slice none 0 0),.sc (.slice none 0 0)]),(148,.box [.sc (.int .i64 (pi)),.ow 9001,.ow 9002,.ow 9003]),(9001,.tree 26 (.row 2 (.int .i64)) (ts) none),(9002,.tree 56 (.prod (.int .i64) (.prod (.int .i64) (.prod (.int .i64) (.row 2 (.int .i64))))) (ns.take k.1) none),(9003,.row 2 (.int .i64) (os) [])]⟩) (fun k=>ns.length - k.1) ⟨0,by simp⟩ ?_ ?_
  ·
   refine oK ?_;simp (maxSteps:=2000000)only[go_sem];all_goals((repeat' refine And.intro ?_ ?_)<;>first|rfl|(congr 1;exact List.take_of_length_le (by omega))|exact List.take_of_length_le (by omega)|(congr 1;done))
  rintro⟨k,hk⟩ K11 hL11
  have htk:(List.take k ns).length≤1099511627776:=by rw[List.length_take];omega
  have hyk:k < ns.length→(ns.getD k ((0,0,0,[]):A4)).2.2.2.length≤1099511627776:=fun h=>hy2 _ (B9 h)
  refine oS fun _ hK12=>?_;refine oS fun _ hK13=>?_;refine oW J6 ?_;simp (maxSteps:=2000000)only[go_sem];repeat(with_reducible refine oA ?_)
  refine hK13 _ ?_;refine oC rfl ?_ ?_
  ·
   intro c1;refine A3 ?_;simp only[go_sem];refine hK12 _ ?_;refine oS fun _ hK14=>?_;refine A5 ?_;refine oS fun _ hK15=>?_;refine oW J6 ?_;simp (maxSteps:=2000000)only[go_sem];repeat(with_reducible refine oA ?_)
   refine hK15 _ ?_;refine oS fun _ hK16=>?_;refine oW J6 ?_;simp (maxSteps:=2000000)only[go_sem];repeat(with_reducible first|refine oA ?_|refine And.intro (by first|exact hyk (by omega)) ?_)
   refine hK16 _ ?_;refine oW J6 ?_;simp (maxSteps:=2000000)only[List.nodup_cons,List.nodup_nil,List.not_mem_nil,not_false_eq_true,go_sem];repeat(with_reducible refine oA ?_)
   refine hK14 _ ?_;refine oW J6 ?_;simp only[go_sem];refine hL11 ⟨k+1,by omega⟩ _ (oK ?_) ?_
   ·
    simp (maxSteps:=2000000)only[go_sem];all_goals((repeat' refine And.intro ?_ ?_)<;>first|rfl|exact wk (by omega)|(congr 1;exact(G7 (xs:=ns) (k:=k) (d:=((0,0,0,[]):A4)) (by omega)).symm)|exact(G7 (xs:=ns) (k:=k) (d:=((0,0,0,[]):A4)) (by omega)).symm|(congr 1;done))
   ·
    first|(simp only[];omega)|omega|(simp;omega)
  intro c1;refine C2 ?_;simp only[go_sem];refine hK9 _ ?_;refine oS fun _ hK17=>?_;refine oW J6 ?_;simp only[go_sem];repeat(with_reducible refine oA ?_)
  refine hK17 _ ?_;refine A2 ?_;simp only[hres,go_sem];first|exact oF|(refine⟨?_,oF⟩;exact congrArg (fun z=>((pi,ts,z,os):A6)) (List.take_of_length_le (by omega)))
def A0S:F8:=fun f=>if f=21 then some (.p A2v) else A8q f
theorem t2:B8 Tryz.prog A0S:=F9 B8R (B6 Tryz.func21 rfl (by decide)) J6
attribute [go_sem] A0S A2v
open Go.RowKit
def St.freeR (σ:St) (n:Nat):St:=match σ.look n with
 | some (.row e t xs [])=>⟨A19 n e t xs σ.tm,w8 n e t xs σ.ob⟩
 | _=>σ
theorem A4u (σ:St) (n:Nat) (hn:5 < n):Wk σ (σ.freeR n):=fun R0 w0 R a w hs=>by
 unfold St.freeR
 split
 case h_2=>exact⟨R,hs⟩
 rename_i e t xs he
 obtain⟨R',hR'⟩:∃R':Rz,R'={ R with root:=fun b=>if R.root b=n then 0 else R.root b }:=⟨_,rfl⟩
 have hok:∀S b,okS R S b→okS R' S b:=fun S b hb=>by
  show R'.root b=0∨R'.root b∈S
  rw[hR']
  simp only
  split
  · exact .inl rfl
  · exact hb
 have hrt:∀b m,m≠n→R.root b=m→R'.root b=m:=fun b m hm hb=>by rw[hR'];simp[hb,hm]
 have hbk:∀m,R'.bk m=R.bk m:=fun m=>by rw[hR']
 have hhd:∀m,R'.hd m=R.hd m:=fun m=>by rw[hR']
 have hC:∀(c:CV) (u:Value),VRc R w c u→VRc R' w (c.kill [] [n]) u:=fun c u h=>by
  unfold CV.kill
  split
  · trivial
  · rename_i hh
    simp only[CV.hit,Bool.or_eq_true,not_or,Bool.not_eq_true] at hh
    have hI:=l3 hh.2
    cases c with
    | sc v=>exact h
    | rd S e t xs=>exact Rd.mono h (hok S)
    | pt S t x k =>
      obtain⟨b,q,us,rfl,h1,h2,h3,h4⟩:=h;exact⟨b,q,us,rfl,hok S b h1,h2,h3,h4.mono (hok S)⟩
    | ow m=>show u=_;rw[hhd];exact h
    | po m k=>show u=.pointer (some ⟨_,k,none⟩);rw[hbk];exact h
    | pe m i wd k=>show u=.pointer (some ⟨_,i * wd+k,none⟩);rw[hbk];exact h
    | sub m i wd o e t xs =>
      have hm:m≠n:=by have:=hI m (by simp[CV.ids]);simpa using this
      obtain⟨h1,h2,h3⟩:=h;refine⟨by rw[hbk];exact h1,by rw[hbk];exact hrt _ _ hm h2,?_⟩
      rcases h3 with h3|⟨b,cap,cur,k1,k2,k3,k4,k5,k6,k7⟩
      · exact .inl h3
      · exact .inr ⟨b,cap,cur,k1,hrt _ _ hm k2,k3,k4,k5,k6,fun j hj=>(k7 j hj).mono (hok [])⟩
    | pi m i wd o j t x k =>
      have hm:m≠n:=by have:=hI m (by simp[CV.ids]);simpa using this
      obtain⟨b,l,cap,us,h1,h2,h3,h4,h5,h6,h7⟩:=h;exact⟨b,l,cap,us,by rw[hbk];exact h1,by rw[hbk];exact hrt _ _ hm h2,hrt _ _ hm h3,h4,h5,h6,h7.mono (hok [m])⟩
    | fn f l =>
      have h:u=_:=h
      show u=_
      rw[h]
      congr 2
      exact List.map_congr_left fun m _=>by rw[hbk]
    | bot=>trivial
 have hCs:∀(l:List CV) (us:List Value),VRs R w l us→VRs R' w (l.map (CV.kill [] [n])) us:=by
  intro l
  induction l with
  | nil=>intro us h;exact h
  | cons c l ih=>intro us h;obtain⟨u,us',rfl,h1,h2⟩:=h;exact⟨u,us',rfl,hC c u h1,ih us' h2⟩
 have hA:∀(x:AV) (u:Value),VR R w x u→VR R' w (x.kill [] [n]) u:=by
  intro x;refine AV.rec (motive_1:=fun x=>∀u,VR R w x u→VR R' w (x.kill [] [n]) u) (motive_2:=fun l=>∀us,VRt R w l us→VRt R' w (AV.killL [] [n] l) us) ?_ ?_ ?_ ?_ ?_ x
  · intro c u h;simp only[VR,AV.kill] at h ⊢;exact hC c u h
  · intro l u h;simp only[VR,AV.kill] at h ⊢;obtain⟨us,rfl,h1⟩:=h;exact⟨us,rfl,hCs l _ h1⟩
  · intro l ih u h;simp only[VR,AV.kill] at h ⊢;obtain⟨us,rfl,h1⟩:=h;exact⟨us,rfl,ih _ h1⟩
  · intro us h;simpa only [VRt,AV.killL] using h
  · intro x l h1 h2 us h;simp only[VRt,AV.killL] at h ⊢;obtain⟨u,us',rfl,h3,h4⟩:=h;exact⟨u,us',rfl,h1 u h3,h2 us' h4⟩
 have hok2:∀b,okS R [n] b→okS R' [] b:=fun b hb=>by
  left
  rw[hR']
  simp only
  rcases hb with hb|hb
  · split<;>simp_all
  · simp at hb;rw[if_pos hb]
 have hrow:Rd (okS R' []) w (.row e t) [R.hd n] xs:=by
  have h1:=A07 (p:=.ow n) hs (u:=R.hd n) rfl (e:=e) (t:=t) (xs:=xs) (by simp[y3,he])
  have h2:A0a σ (.ow n)=[n]:=by simp[A0a,he]
  rw[h2] at h1;exact h1.mono hok2
 have hD:∀(c:CV) (u:Value),VRc R w c u→VRc R' w (A17 n e t xs c) u:=fun c u h=>by
  unfold A17
  split
  · rename_i m
    split
    · rename_i e1
      subst e1;have h:u=_:=h
      show Rd _ _ _ _ _
      rw[h];exact hrow
    · show u=_;rw[hhd];exact h
  · exact hC _ _ h
 have hDs:∀(l:List CV) (us:List Value),VRs R w l us→VRs R' w (l.map (A17 n e t xs)) us:=by
  intro l
  induction l with
  | nil=>intro us h;exact h
  | cons c l ih=>intro us h;obtain⟨u,us',rfl,h1,h2⟩:=h;exact⟨u,us',rfl,hD c u h1,ih us' h2⟩
 have hL:∀(l:List AV) (us:List Value),VRt R w l us→VRt R' w (A19 n e t xs l) us:=by
  intro l
  induction l with
  | nil=>intro us h;simpa only [VRt,A19] using h
  | cons x l ih =>
    intro us h
    simp only[VRt,A19] at h ⊢
    obtain⟨u,us',rfl,h1,h2⟩:=h;refine⟨u,us',rfl,?_,ih us' h2⟩
    unfold B0e
    split
    · simp only[VR] at h1 ⊢;exact hD _ _ h1
    · simp only[VR] at h1 ⊢
      obtain⟨vs,rfl,h3⟩:=h1;exact⟨vs,rfl,hDs _ _ h3⟩
    · exact hA _ _ h1
 have hO:∀l,obsOk R w l→obsOk R' w (w8 n e t xs l):=by
  intro l
  induction l with
  | nil=>intro _ p hp;simp[w8] at hp
  | cons q l ih =>
    intro hl p hp
    have h1:=hl q List.mem_cons_self
    have ih':=ih (fun p hp=>hl p (List.mem_cons_of_mem _ hp))
    simp only[w8] at hp
    split at hp
    · exact ih' p hp
    · rename_i hq
      obtain⟨m,o⟩:=q;simp only at hq h1 hp
      cases o with
      | box cs =>
        simp only[List.mem_cons] at hp
        rcases hp with rfl|hp
        · obtain⟨us,T,g1,g2,g3⟩:=h1;exact⟨us,T,by simp only;rw[hbk];exact g1,by simp only;rw[hbk];exact hrt _ _ hq g2,hDs _ _ g3⟩
        · exact ih' p hp
      | row e' t' xs' S' =>
        simp only[List.mem_cons] at hp
        rcases hp with rfl|hp
        · rcases h1 with⟨g1,g2⟩|⟨cap,cur,g1,g2,g3,g4,g5,g6,g7⟩
          · exact .inl ⟨by simp only;rw[hhd];exact g1,g2⟩
          · exact .inr ⟨cap,cur,by simp only;rw[hhd,hbk];exact g1,by simp only;rw[hbk];exact hrt _ _ hq g2,by simp only;rw[hbk];exact g3,g4,g5,g6,fun i hi=>(g7 i hi).mono (hok S')⟩
        · exact ih' p hp
      | tree e' t' xs' h' =>
        simp only[List.mem_cons] at hp
        rcases hp with rfl|hp
        · rcases h1 with⟨g1,g2⟩|⟨cap,cur,g1,g2,g3,g4,g5,g6,g7,g8⟩
          · exact .inl ⟨by simp only;rw[hhd];exact g1,g2⟩
          · exact .inr ⟨cap,cur,by simp only;rw[hhd,hbk];exact g1,by simp only;rw[hbk];exact hrt _ _ hq g2,by simp only;rw[hbk];exact g3,g4,g5,g6,fun i hi hh=>(g7 i hi hh).mv fun c b l k _ hr hlt=>⟨rfl,hrt _ _ hq hr⟩,by simp only;rw[hbk];exact g8⟩
        · exact ih' p hp
 have hv:=hL _ _ hs.tm
 refine⟨R',?_,hv,hO _ hs.ob,hs.os,hs.tape,hs.output,hs.grow,fun b hb hr=>?_,fun m h1 h2=>⟨(hhd m).trans (hs.pl m h1 h2).1,(hbk m).trans (hs.pl m h1 h2).2⟩,hs.defers⟩
 · have:=hv.length;simp only;rw[←this];simp
 · obtain⟨k1,k2⟩:=hs.keep b hb hr
   refine⟨k1,?_⟩
   rw[hR']
   simp only
   rw[if_neg (by rw[k2];omega)]
   exact k2
attribute [go_sem] St.freeR
end Go.Proofs.YtflobmmbhaofbaaGreat
