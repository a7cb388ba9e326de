/-
  Texts of this claim, joined (part 19). No condition beyond those of the theorems.
-/
import Derived.Test.YtgaogcnfijbahaaGreatQ13
import Derived.Test.YtgaogcnfijbahaaGreatQ14
import Derived.Test.YtgaogcnfijbahaaGreatQ18
import Derived.Test.YtgaogcnfijbahaaGreatQ02
import Derived.Test.YtgaogcnfijbahaaGreatQ12
set_option linter.unusedSimpArgs false
set_option linter.unusedVariables false
namespace Go.Proofs.YtgaogcnfijbahaaGreat
open Go.RowKit
theorem C2b {n:Nat} {s s':W5} {x:Int} (hs:srcOk n s) (hn:6≤n) (e:Y9 s=(x,s')):smp x=true:=by
 unfold Y9 at e;rcases h1:E5 8 s with⟨v,s1⟩
 rw[L7 h1] at e;obtain⟨hs1,_⟩:=I2 hs (by omega) h1
 split at e
 · obtain⟨_,hm⟩:=O0 hs1 (by omega) (by simp) e
   rw[s7];simp at hm;omega
 · split at e
   · unfold bnd at e;simp only[Prod.mk.injEq] at e
     rw[←e.1];exact A1r _
   · split at e
     · simp only[Prod.mk.injEq] at e;rw[←e.1];rfl
     · rcases h2:E5 41 s1 with⟨y,s2⟩
       rw[L7 h2] at e;obtain⟨_,h3,h4,_⟩:=I2 hs1 (by omega) h2
       have h4:=h4 (by omega)
       simp only[Prod.mk.injEq] at e
       rw[←e.1,s7];omega
def LinN (tl:Int) (nd:A6):Prop:=B1A nd.1∧A3a nd.1 nd.2.1 tl=true∧(match decide (nd.1=17) with|true=>J3 nd.2.2.1 1 16|false=>decide (nd.2.2.1=0))=true∧A1K nd
theorem LinN.b {tl:Int} {nd:A6} (h:LinN tl nd) (hf:∀f∈nd.2.2.2,0≤f∧f≤23):M6 nd tl=true:=by
 obtain⟨kd,a,bb,fr⟩:=nd;obtain⟨h1,h2,h3,h4⟩:=h;rw[←B1P];unfold A5N;have hk:J3 kd 1 17=true:=by simp only at h1;unfold B1A at h1;exact J8 (by omega) (by omega)
 have h5:decide ((fr.length:Int)=arL.getD kd.toNat 0)=true:=by
  unfold A1K at h4;simp only at h4 h1
  rcases h1 with rfl|rfl|rfl|rfl|rfl|rfl|rfl|rfl<;>rw[h4]<;>rfl
 have h6:fr.all (fun f=>J3 f 0 23)=true:=List.all_eq_true.2 fun f hf'=>J8 (hf f hf').1 (hf f hf').2
 simp only at h2 h3
 rw[hk,h2,h5,h6];exact h3
def A8D:DM A3:=bnd (E5 2) fun a s=>bnd (E5 2) (fun b s=>A3j (1+a) (1+b) 9 true s) s
theorem B9V:Cost 1304 A8D:=by
 refine(A3F (b:=1302) fun a h0 h1 _=>?_).le (by omega)
 refine(A3F (b:=1300) fun b k0 k1 _=>?_).le (by omega)
 have h1:=h1 (by omega)
 have k1:=k1 (by omega)
 exact A71 (by omega) (by omega)
open Go.RowKit
section
variable {p:A3} {n:Nat} {f g:Nat→List Int}
end
/-! Draws: signals of n samples. -/
def B2U (n:Int):DM (List Int):=R7 (I8 Y9) n.toNat []
theorem B1J:Cost 72 (B2U 12):=(Cost.it (Q5 Y3) 12 []).le (by omega)
def A8E (ts:List (List Int)):DM (List (List Int)):=bnd (B2U 12) fun x s=>(ts++[x],s)
theorem B1v (ts:List (List Int)):Cost 72 (A8E ts):=B1J.bnd fun _=>Cost.pure _
def B4h (cd:List Int) (n:Nat):List (List Int):=(R7 A8E n [] (cd,0,0)).1
theorem C0v:∀(k:Nat) {n:Nat} {s s':W5} {xs:List Int},srcOk n s→6 * k≤n→R7 (I8 Y9) k [] s=(xs,s')→xs.length=k∧D9 xs=true:=by
 intro k
 induction k with
 | zero=>intro n s s' xs _ _ e;simp only[R7,Prod.mk.injEq] at e;rw[←e.1];exact⟨rfl,rfl⟩
 | succ k ih =>
   intro n s s' xs hs hn e
   rcases h1:R7 (I8 Y9) k [] s with⟨ys,s1⟩
   have h2:=X8 h1
   rw[e] at h2;have hs1:=(Cost.it (Q5 Y3) k []).at hs (by omega) h1
   rcases h3:Y9 s1 with⟨x,s2⟩
   rw[I8,L7 h3] at h2;have h4:=C2b hs1 (by omega) h3
   obtain⟨i1,i2⟩:=ih hs (by omega) h1
   simp only[Prod.mk.injEq] at h2
   rw[h2.1];refine⟨by rw[List.length_append,i1];rfl,G4.2 fun z hz=>?_⟩
   rcases List.mem_append.1 hz with hz|hz
   · exact G4.1 i2 z hz
   · rw[List.mem_singleton.1 hz];exact h4
theorem B50:∀(k:Nat) {n:Nat} {s s':W5} {ts:List (List Int)},srcOk n s→72 * k≤n→R7 A8E k [] s=(ts,s')→ts.length=k∧∀a∈ts,a.length=12∧D9 a=true:=by
 intro k
 induction k with
 | zero=>intro n s s' ts _ _ e;simp only[R7,Prod.mk.injEq] at e;rw[←e.1];exact⟨rfl,fun a ha=>by cases ha⟩
 | succ k ih =>
   intro n s s' ts hs hn e
   rcases h1:R7 A8E k [] s with⟨ys,s1⟩
   have h2:=X8 h1
   rw[e] at h2;have hs1:=(Cost.it B1v k []).at hs (by omega) h1
   rcases h3:B2U 12 s1 with⟨x,s2⟩
   rw[A8E,L7 h3] at h2;have h4:=C0v 12 hs1 (by omega) h3
   obtain⟨i1,i2⟩:=ih hs (by omega) h1
   simp only[Prod.mk.injEq] at h2
   rw[h2.1];refine⟨by rw[List.length_append,i1];rfl,fun a ha=>?_⟩
   rcases List.mem_append.1 ha with ha|ha
   · exact i2 a ha
   · rw[List.mem_singleton.1 ha];exact h4
theorem C5C {cd:List Int} (h:∀b∈cd,0≤b∧b≤255) {n:Nat} (hn:n≤4):(B4h cd n).length=n∧∀a∈B4h cd n,a.length=12∧D9 a=true:=by
 rcases e:R7 A8E n [] (cd,0,0) with⟨ts,s⟩
 have:=B50 n (n:=400) (s:=(cd,0,0)) ⟨h,by simp,by simp⟩ (by omega) e
 unfold B4h;rw[e];exact this
/-! Systems that the tests take. -/
/-! The law's loop. -/
def lnS (q:A3) (ins:List (List Int)) (t:Nat):List Int:=(stN q ins t).flatten
structure flOk (p:A3) (x:b9) (ins:List (List Int)):Prop where
 hP:B9 p=true
 hp:A5m (D0 p)
 hx:F6 (D0 p)=x
 hin:J9 p ins
 h12:∀a∈ins,a.length=12
 w:linW x x.2.1.length
 n:x.2.1.length≤24
 i:x.1=p.1
 o:x.2.2.2.1.length=p.2.2.2.length
 o4:p.2.2.2.length≤4
section
variable {p:A3} {x:b9} {ins:List (List Int)} (h:flOk p x ins)
include h
theorem flOk.hF:C0 (D0 p)=true:=(B8 (T5 h.hP)).1
theorem flOk.hinT:J9 (D0 p) ins:=h.hin
theorem flOk.cell:B7 (D0 p).2.2.1=x.2.1.length:=by have:=(A7i h.hF).a.1;rw[h.hx] at this;exact this.symm
theorem flOk.len (t:Nat):(lnS (D0 p) ins t).length=x.2.1.length:=by
 unfold lnS;rw[B05 (B6R h.hF h.hinT t),h.cell]
theorem flOk.zero:lnS (D0 p) ins 0=List.replicate x.2.1.length 0:=by
 unfold lnS;rw[A9u,A5e h.hp,h.cell];rfl
theorem flOk.smp (t:Nat):D9 (lnS (D0 p) ins t)=true:=G4.2 fun z hz=>by
 have hS:=B6R h.hF h.hinT t
 obtain⟨l,hl,hz⟩:=List.mem_flatten.1 hz
 obtain⟨i,hi,rfl⟩:=List.mem_iff_getElem.1 hl
 have hi':i < (D0 p).2.2.1.length:=by rw[←hS.1];exact hi
 have h2:=(hS.2 i hi').2
 have e:(stN (D0 p) ins t).getD i []=(stN (D0 p) ins t)[i]:=by simp[List.getD,hi]
 rw[e] at h2;exact G4.1 h2 _ hz
theorem flOk.step (t:Nat):apM x.2.1 x.2.2.1 (lnS (D0 p) ins t) (C7 ins (t:Int))=lnS (D0 p) ins (t+1)∧apM x.2.2.2.1 x.2.2.2.2 (lnS (D0 p) ins t) (C7 ins (t:Int))=J4 (D0 p) (A9D (D0 p) ins t):=by
 have:=A6R h.hF h.hp h.hinT t
 rw[h.hx] at this;exact⟨this.1.symm,this.2.symm⟩
theorem flOk.rows {i:Nat} (hi:i < p.2.2.2.length):((H9 p ins 12).getD i []).length=12:=B2d (B8 h.hP).1 h.hin hi 12
theorem flOk.row {i:Nat} (hi:i < ins.length):(ins.getD i []).length=12:=h.h12 _ (D6 hi)
end
open Go.RowKit
def St.freeR (σ:St) (n:Nat):St:=match σ.look n with
 | some (.row e t xs [])=>⟨A1Y n e t xs σ.tm,y5 n e t xs σ.ob⟩
 | _=>σ
theorem t8 (σ:St) (n:Nat) (hn:5 < n):Wk σ (σ.freeR n):=fun R0 w0 R a w hs=>by
 unfold St.freeR
 split
 case h_2=>exact⟨R,hs⟩
 rename_i e t xs he
 obtain⟨R',hR'⟩:∃R':Rz,R'={ R with root:=fun b=>if R.root b=n then 0 else R.root b }:=⟨_,rfl⟩
 have hok:∀S b,okS R S b→okS R' S b:=fun S b hb=>by
  show R'.root b=0∨R'.root b∈S
  rw[hR']
  simp only
  split
  · exact .inl rfl
  · exact hb
 have hrt:∀b m,m≠n→R.root b=m→R'.root b=m:=fun b m hm hb=>by rw[hR'];simp[hb,hm]
 have hbk:∀m,R'.bk m=R.bk m:=fun m=>by rw[hR']
 have hhd:∀m,R'.hd m=R.hd m:=fun m=>by rw[hR']
 have hC:∀(c:CV) (u:Value),VRc R w c u→VRc R' w (c.kill [] [n]) u:=fun c u h=>by
  unfold CV.kill
  split
  · trivial
  · rename_i hh
    simp only[CV.hit,Bool.or_eq_true,not_or,Bool.not_eq_true] at hh
    have hI:=r6 hh.2
    cases c with
    | sc v=>exact h
    | rd S e t xs=>exact Rd.mono h (hok S)
    | pt S t x k =>
      obtain⟨b,q,us,rfl,h1,h2,h3,h4⟩:=h;exact⟨b,q,us,rfl,hok S b h1,h2,h3,h4.mono (hok S)⟩
    | ow m=>show u=_;rw[hhd];exact h
    | po m k=>show u=.pointer (some ⟨_,k,none⟩);rw[hbk];exact h
    | pe m i wd k=>show u=.pointer (some ⟨_,i * wd+k,none⟩);rw[hbk];exact h
    | sub m i wd o e t xs =>
      have hm:m≠n:=by have:=hI m (by simp[CV.ids]);simpa using this
      obtain⟨h1,h2,h3⟩:=h;refine⟨by rw[hbk];exact h1,by rw[hbk];exact hrt _ _ hm h2,?_⟩
      rcases h3 with h3|⟨b,cap,cur,k1,k2,k3,k4,k5,k6,k7⟩
      · exact .inl h3
      · exact .inr ⟨b,cap,cur,k1,hrt _ _ hm k2,k3,k4,k5,k6,fun j hj=>(k7 j hj).mono (hok [])⟩
    | pi m i wd o j t x k =>
      have hm:m≠n:=by have:=hI m (by simp[CV.ids]);simpa using this
      obtain⟨b,l,cap,us,h1,h2,h3,h4,h5,h6,h7⟩:=h;exact⟨b,l,cap,us,by rw[hbk];exact h1,by rw[hbk];exact hrt _ _ hm h2,hrt _ _ hm h3,h4,h5,h6,h7.mono (hok [m])⟩
    | fn f l =>
      have h:u=_:=h
      show u=_
      rw[h]
      congr 2
      exact List.map_congr_left fun m _=>by rw[hbk]
    | bot=>trivial
 have hCs:∀(l:List CV) (us:List Value),VRs R w l us→VRs R' w (l.map (CV.kill [] [n])) us:=by
  intro l
  induction l with
  | nil=>intro us h;exact h
  | cons c l ih=>intro us h;obtain⟨u,us',rfl,h1,h2⟩:=h;exact⟨u,us',rfl,hC c u h1,ih us' h2⟩
 have hA:∀(x:AV) (u:Value),VR R w x u→VR R' w (x.kill [] [n]) u:=by
  intro x;refine AV.rec (motive_1:=fun x=>∀u,VR R w x u→VR R' w (x.kill [] [n]) u) (motive_2:=fun l=>∀us,VRt R w l us→VRt R' w (AV.killL [] [n] l) us) ?_ ?_ ?_ ?_ ?_ x
  · intro c u h;simp only[VR,AV.kill] at h ⊢;exact hC c u h
  · intro l u h;simp only[VR,AV.kill] at h ⊢;obtain⟨us,rfl,h1⟩:=h;exact⟨us,rfl,hCs l _ h1⟩
  · intro l ih u h;simp only[VR,AV.kill] at h ⊢;obtain⟨us,rfl,h1⟩:=h;exact⟨us,rfl,ih _ h1⟩
  · intro us h;simpa only [VRt,AV.killL] using h
  · intro x l h1 h2 us h;simp only[VRt,AV.killL] at h ⊢;obtain⟨u,us',rfl,h3,h4⟩:=h;exact⟨u,us',rfl,h1 u h3,h2 us' h4⟩
 have hok2:∀b,okS R [n] b→okS R' [] b:=fun b hb=>by
  left
  rw[hR']
  simp only
  rcases hb with hb|hb
  · split<;>simp_all
  · simp at hb;rw[if_pos hb]
 have hrow:Rd (okS R' []) w (.row e t) [R.hd n] xs:=by
  have h1:=A0Y (p:=.ow n) hs (u:=R.hd n) rfl (e:=e) (t:=t) (xs:=xs) (by simp[A02,he])
  have h2:A0o σ (.ow n)=[n]:=by simp[A0o,he]
  rw[h2] at h1;exact h1.mono hok2
 have hD:∀(c:CV) (u:Value),VRc R w c u→VRc R' w (A1c n e t xs c) u:=fun c u h=>by
  unfold A1c
  split
  · rename_i m
    split
    · rename_i e1
      subst e1;have h:u=_:=h
      show Rd _ _ _ _ _
      rw[h];exact hrow
    · show u=_;rw[hhd];exact h
  · exact hC _ _ h
 have hDs:∀(l:List CV) (us:List Value),VRs R w l us→VRs R' w (l.map (A1c n e t xs)) us:=by
  intro l
  induction l with
  | nil=>intro us h;exact h
  | cons c l ih=>intro us h;obtain⟨u,us',rfl,h1,h2⟩:=h;exact⟨u,us',rfl,hD c u h1,ih us' h2⟩
 have hL:∀(l:List AV) (us:List Value),VRt R w l us→VRt R' w (A1Y n e t xs l) us:=by
  intro l
  induction l with
  | nil=>intro us h;simpa only [VRt,A1Y] using h
  | cons x l ih =>
    intro us h
    simp only[VRt,A1Y] at h ⊢
    obtain⟨u,us',rfl,h1,h2⟩:=h;refine⟨u,us',rfl,?_,ih us' h2⟩
    unfold B3G
    split
    · simp only[VR] at h1 ⊢;exact hD _ _ h1
    · simp only[VR] at h1 ⊢
      obtain⟨vs,rfl,h3⟩:=h1;exact⟨vs,rfl,hDs _ _ h3⟩
    · exact hA _ _ h1
 have hO:∀l,obsOk R w l→obsOk R' w (y5 n e t xs l):=by
  intro l
  induction l with
  | nil=>intro _ p hp;simp[y5] at hp
  | cons q l ih =>
    intro hl p hp
    have h1:=hl q List.mem_cons_self
    have ih':=ih (fun p hp=>hl p (List.mem_cons_of_mem _ hp))
    simp only[y5] at hp
    split at hp
    · exact ih' p hp
    · rename_i hq
      obtain⟨m,o⟩:=q;simp only at hq h1 hp
      cases o with
      | box cs =>
        simp only[List.mem_cons] at hp
        rcases hp with rfl|hp
        · obtain⟨us,T,g1,g2,g3⟩:=h1;exact⟨us,T,by simp only;rw[hbk];exact g1,by simp only;rw[hbk];exact hrt _ _ hq g2,hDs _ _ g3⟩
        · exact ih' p hp
      | row e' t' xs' S' =>
        simp only[List.mem_cons] at hp
        rcases hp with rfl|hp
        · rcases h1 with⟨g1,g2⟩|⟨cap,cur,g1,g2,g3,g4,g5,g6,g7⟩
          · exact .inl ⟨by simp only;rw[hhd];exact g1,g2⟩
          · exact .inr ⟨cap,cur,by simp only;rw[hhd,hbk];exact g1,by simp only;rw[hbk];exact hrt _ _ hq g2,by simp only;rw[hbk];exact g3,g4,g5,g6,fun i hi=>(g7 i hi).mono (hok S')⟩
        · exact ih' p hp
      | tree e' t' xs' h' =>
        simp only[List.mem_cons] at hp
        rcases hp with rfl|hp
        · rcases h1 with⟨g1,g2⟩|⟨cap,cur,g1,g2,g3,g4,g5,g6,g7,g8⟩
          · exact .inl ⟨by simp only;rw[hhd];exact g1,g2⟩
          · exact .inr ⟨cap,cur,by simp only;rw[hhd,hbk];exact g1,by simp only;rw[hbk];exact hrt _ _ hq g2,by simp only;rw[hbk];exact g3,g4,g5,g6,fun i hi hh=>(g7 i hi hh).mv fun c b l k _ hr hlt=>⟨rfl,hrt _ _ hq hr⟩,by simp only;rw[hbk];exact g8⟩
        · exact ih' p hp
 have hv:=hL _ _ hs.tm
 refine⟨R',?_,hv,hO _ hs.ob,hs.os,hs.tape,hs.output,hs.grow,fun b hb hr=>?_,fun m h1 h2=>⟨(hhd m).trans (hs.pl m h1 h2).1,(hbk m).trans (hs.pl m h1 h2).2⟩,hs.defers⟩
 · have:=hv.length;simp only;rw[←this];simp
 · obtain⟨k1,k2⟩:=hs.keep b hb hr
   refine⟨k1,?_⟩
   rw[hR']
   simp only
   rw[if_neg (by rw[k2];omega)]
   exact k2
attribute [go_sem] St.freeR
set_option maxRecDepth 100000
set_option maxHeartbeats 8000000
def A0Q:GCon where
  ps:=[.po 0]
  os:=[.box [.rd ((.row 5 (.int .u8))),.rd (.int .i64),.rd (.int .u64)]]
  c:=fun x=>srcOk 1304 (x.2.1.1,x.2.1.2.1,x.2.1.2.2.1)
  r:=fun x=>.agg [.sc (.int .i64 (A8D (x.2.1.1,x.2.1.2.1,x.2.1.2.2.1)).1.1),.ow 10,.ow 11,.ow 12]
  o:=fun x=>[(30,.box [.rd [] 5 (.int .u8) ((A8D (x.2.1.1,x.2.1.2.1,x.2.1.2.2.1)).2.1),.sc (.int .i64 ((A8D (x.2.1.1,x.2.1.2.1,x.2.1.2.2.1)).2.2.1)),.sc (.int .u64 ((A8D (x.2.1.1,x.2.1.2.1,x.2.1.2.2.1)).2.2.2))]),(10,.tree 26 (.row 2 (.int .i64)) ((A8D (x.2.1.1,x.2.1.2.1,x.2.1.2.2.1)).1.2.1) none),(11,.tree 95 ((.prod (.int .i64) (.prod (.int .i64) (.prod (.int .i64) (.row 2 (.int .i64)))))) ((A8D (x.2.1.1,x.2.1.2.1,x.2.1.2.2.1)).1.2.2.1) none),(12,.row 2 (.int .i64) ((A8D (x.2.1.1,x.2.1.2.1,x.2.1.2.2.1)).1.2.2.2) [])]
  ok:=by
    rintro⟨⟨_,_⟩,⟨⟨(cd:List Int),(pt:Int),(sd:Int),_⟩,_⟩⟩
    exact⟨rfl,rfl,by decide⟩
theorem B6u:Z2 Tryz.prog 31 A0Q:=by
  refine E1 Tryz.func31 rfl ?_
  have hres:Tryz.f31.results.toList=[.cell 2 28]:=rfl
  rintro⟨⟨_,_⟩,⟨⟨(cd:List Int),(pt:Int),(sd:Int),_⟩,_⟩⟩ hc hL hO
  simp only[A0Q,go_sem] at hL
  simp only[A0Q,go_sem] at hO
  simp only[A0Q,St.init,St.initG,Tryz.ntmps31,go_sem] 
  have hs0:srcOk 1304 (cd,pt,sd):=hc
  rcases hr1:E5 2 (cd,pt,sd) with⟨v1,u1,p1,q1⟩
  obtain⟨hs1,hv1,hb1,hz1⟩:=I2 hs0 (by omega) hr1
  have hs1:srcOk _ (u1,p1,q1):=hs1
  rcases hr2:E5 2 (u1,p1,q1) with⟨v2,u2,p2,q2⟩
  obtain⟨hs2,hv2,hb2,hz2⟩:=I2 hs1 (by omega) hr2
  have hs2:srcOk _ (u2,p2,q2):=hs2
  have hb1:=hb1 (by omega)
  have hb2:=hb2 (by omega)
  have hw1:IntKind.i64.wrap (1+v1)=1+v1:=F3 (by omega)
  have hw2:IntKind.i64.wrap (1+v2)=1+v2:=F3 (by omega)
  rcases hr3:A3j (1+v1) (1+v2) 9 true (u2,p2,q2) with⟨⟨pi,ts,ns,os⟩,u3,p3,q3⟩
  have zq1:0≤1+v1:=by omega
  have zq2:1+v1≤4:=by omega
  have zq3:0≤1+v2:=by omega
  have zq4:1+v2≤4:=by omega
  have zq5:(1:Int)≤9:=by omega
  have zq6:(9:Int)≤20:=by omega
  refine oS fun _ hK1=>?_;refine oW D1 ?_;simp only[go_sem];repeat(with_reducible first|refine oA ?_|refine And.intro (by first|exact H2|with_unfolding_all exact⟨hs2.le (by omega),zq1,zq2,zq3,zq4,zq5,zq6⟩) ?_)
  refine hK1 _ ?_;refine oS fun _ hK2=>?_;refine oW D1 ?_;simp only[hr1,hw1,go_sem];repeat(with_reducible first|refine oA ?_|refine And.intro (by first|exact H2|with_unfolding_all exact⟨hs2.le (by omega),zq1,zq2,zq3,zq4,zq5,zq6⟩) ?_)
  refine hK2 _ ?_;refine oS fun _ hK3=>?_;refine oW D1 ?_;simp only[hr2,hw2,go_sem];repeat(with_reducible first|refine oA ?_|refine And.intro (by first|exact H2|with_unfolding_all exact⟨hs2.le (by omega),zq1,zq2,zq3,zq4,zq5,zq6⟩) ?_)
  refine hK3 _ ?_;refine oS fun _ hK4=>?_;refine oW D1 ?_;simp (maxSteps:=2000000)only[List.nodup_cons,List.nodup_nil,List.not_mem_nil,not_false_eq_true,hr3,go_sem];repeat(with_reducible first|refine oA ?_|refine And.intro (by first|exact H2|with_unfolding_all exact⟨hs2.le (by omega),zq1,zq2,zq3,zq4,zq5,zq6⟩) ?_)
  refine hK4 _ ?_;refine A0 ?_;simp only[hres,go_sem]
  first
   | exact oG
   | refine ⟨oG, ?_⟩
     have hq:A8D (cd,pt,sd)=((pi,ts,ns,os),u3,p3,q3):=by simp only[A8D,bnd,hr1,hr2,hr3]
     simp only[hq];try((repeat' refine And.intro ?_ ?_)<;>first|rfl|trivial|(congr 1;done))
def A4M:E4:=fun f=>if f=31 then some (.g A0Q) else A4T f
theorem P2:B4 Tryz.prog A4M:=m8 B6u (B0 Tryz.func31 rfl (by decide)) D1
attribute [go_sem] A4M A0Q
def A0I:GCon where
  ps:=[.po 0,.val (.int .i64)]
  os:=[.box [.rd ((.row 5 (.int .u8))),.rd (.int .i64),.rd (.int .u64)]]
  c:=fun x=>srcOk 72 (x.2.1.1,x.2.1.2.1,x.2.1.2.2.1)∧(0:Int)≤x.1.2.1∧(x.1.2.1:Int)≤12
  r:=fun x=>.c (.ow 10)
  o:=fun x=>[(30,.box [.rd [] 5 (.int .u8) ((B2U x.1.2.1 (x.2.1.1,x.2.1.2.1,x.2.1.2.2.1)).2.1),.sc (.int .i64 ((B2U x.1.2.1 (x.2.1.1,x.2.1.2.1,x.2.1.2.2.1)).2.2.1)),.sc (.int .u64 ((B2U x.1.2.1 (x.2.1.1,x.2.1.2.1,x.2.1.2.2.1)).2.2.2))]),(10,.row 2 (.int .i64) ((B2U x.1.2.1 (x.2.1.1,x.2.1.2.1,x.2.1.2.2.1)).1) [])]
  ok:=by
    rintro⟨⟨_,(mo:Int),_⟩,⟨⟨(cd:List Int),(pt:Int),(sd:Int),_⟩,_⟩⟩
    exact⟨rfl,rfl,by decide⟩
theorem B6j:Z2 Tryz.prog 25 A0I:=by
  refine E1 Tryz.func25 rfl ?_
  have hres:Tryz.f25.results.toList=[.tmp 4]:=rfl
  rintro⟨⟨_,(mo:Int),_⟩,⟨⟨(cd:List Int),(pt:Int),(sd:Int),_⟩,_⟩⟩ hc hL hO
  simp only[A0I,go_sem] at hL
  simp only[A0I,go_sem] at hO
  simp only[A0I,St.init,St.initG,Tryz.ntmps25,go_sem] 
  obtain⟨hs0,hm1,hm2⟩:=(show srcOk 72 (cd,pt,sd)∧0≤mo∧mo≤12 from hc)
  refine oS fun _ hK1=>?_;refine oW P2 ?_;simp only[go_sem];repeat(with_reducible first|refine oA ?_|refine And.intro (by first|exact H2) ?_)
  refine hK1 _ ?_;refine oS fun _ hK2=>?_;refine oW P2 ?_;simp only[List.nodup_nil,go_sem];repeat(with_reducible first|refine oA ?_|refine And.intro (by first|exact H2) ?_)
  refine hK2 _ ?_;refine oS fun _ hK3=>?_;refine oS fun _ hK4=>?_;refine oW P2 ?_;simp only[go_sem];repeat(with_reducible first|refine oA ?_|refine And.intro (by first|exact H2) ?_)
  refine hK4 _ ?_;refine A1 ?_;refine A7 (ι:={ k:Nat // k≤mo.toNat }) (fun k=>⟨[.c (.po 30 0),.c (.sc (.int .i64 (mo))),zz,zz,zz,.c (.ow 9001),.c (.sc (.int .i64 (k.1))),zz,zz,zz,zz,zz,zz,zz,zz,zz,zz,zz,zz],[(30,.box [.rd [] 5 (.int .u8) ((R7 (I8 Y9) k.1 [] (cd,pt,sd)).2.1),.sc (.int .i64 ((R7 (I8 Y9) k.1 [] (cd,pt,sd)).2.2.1)),.sc (.int .u64 ((R7 (I8 Y9) k.1 [] (cd,pt,sd)).2.2.2))]),(9001,.row 2 (.int .i64) ((R7 (I8 Y9) k.1 [] (cd,pt,sd)).1) [])]⟩) (fun k=>mo.toNat - k.1) ⟨0,by omega⟩ ?_ ?_
  ·
   refine oK ?_;simp (maxSteps:=2000000)only[go_sem];all_goals((repeat' refine And.intro ?_ ?_)<;>first|rfl|omega|(simp;done)|(congr 1;done))
  rintro⟨k,hk⟩ K5 hL5
  rcases hit:R7 (I8 Y9) k [] (cd,pt,sd) with⟨v3,u3,p3,q3⟩
  have hs3:=(Cost.it (Q5 Y3) k []).at hs0 (by omega) hit
  have hlk:v3.length=k:=by have:=A08 (m:=Y9) (k:=k) (s:=(cd,pt,sd)) (xs:=[]);rw[hit] at this;simpa using this
  refine oS fun _ hK6=>?_;refine oS fun _ hK7=>?_;refine oW P2 ?_;simp only[hit,go_sem];repeat(with_reducible first|refine oA ?_|refine And.intro (by first|exact H2) ?_)
  refine hK7 _ ?_;refine oC rfl ?_ ?_
  ·
   intro c0;refine A2 ?_;simp only[go_sem];refine hK6 _ ?_;refine oS fun _ hK8=>?_;refine A1 ?_;rcases hr4:Y9 (u3,p3,q3) with⟨v4,u4,p4,q4⟩
   have hs4:=(Y3).at hs3 (by omega) hr4
   have hnx:R7 (I8 Y9) (k+1) [] (cd,pt,sd)=(v3++[v4],u4,p4,q4):=(X8 hit).trans (L7 hr4)
   refine oW P2 ?_;simp (maxSteps:=2000000)only[hr4,hlk,go_sem];repeat(with_reducible first|refine oA ?_|refine And.intro (by first|exact H2) ?_)
   refine hK8 _ ?_;refine oW P2 ?_;simp only[go_sem];repeat(with_reducible first|refine oA ?_|refine And.intro (by first|exact H2) ?_)
   refine hL5 ⟨k+1,by omega⟩ _ (oK ?_) ?_
   ·
    simp (maxSteps:=2000000)only[go_sem];all_goals(try simp only[hnx])
    all_goals((repeat' refine And.intro ?_ ?_)<;>first|rfl|trivial|exact wk (by omega)|(congr 1;done))
   ·
    first|(simp only[];omega)|omega|(simp;omega)
  intro c0;obtain rfl:k=mo.toNat:=by omega
  refine B6 ?_;simp only[go_sem];refine hK3 _ ?_;refine oS fun _ hK9=>?_;refine oW P2 ?_;simp only[go_sem];repeat(with_reducible first|refine oA ?_|refine And.intro (by first|exact H2) ?_)
  refine hK9 _ ?_;refine A0 ?_;simp only[hres,go_sem]
  first
   | exact oG
   | refine ⟨oG, ?_⟩
     simp only[B2U,hit];try((repeat' refine And.intro ?_ ?_)<;>first|rfl|trivial|(congr 1;done))
def A7l:E4:=fun f=>if f=25 then some (.g A0I) else A4M f
theorem P3:B4 Tryz.prog A7l:=m8 B6j (B0 Tryz.func25 rfl (by decide)) P2
attribute [go_sem] A7l A0I
def A0i:Con:=⟨[.val ((.row 5 (.int .u8))),.val ((.prod (.int .i64) (.prod (.row 26 (.row 2 (.int .i64))) (.prod (.row 95 (.prod (.int .i64) (.prod (.int .i64) (.prod (.int .i64) (.row 2 (.int .i64)))))) (.row 2 (.int .i64))))))],[⟨(.row 26 (.row 2 (.int .i64))),true⟩],fun x=>(∀b∈(x.1:List Int),0≤b∧b≤255)∧(0≤x.2.1.1∧x.2.1.1≤4),fun x=>B4h x.1 (Int.toNat x.2.1.1)⟩
theorem B4T:C9 Tryz.prog 8 A0i:=by
  refine A4 Tryz.func8 rfl ?_
  have hres:Tryz.f8.results.toList=[.tmp 4]:=rfl
  rintro⟨(mr:List Int),⟨(pi:Int),(ts:List (List Int)),(ns:List A6),(os:List Int)⟩,_⟩ hc hL
  simp only[A0i,go_sem] at hL
  simp only[A0i,St.init,St.initG,Tryz.ntmps8,go_sem] 
  obtain⟨hmr,hp0,hp4⟩:=(show (∀b∈mr,0≤b∧b≤255)∧(0≤pi∧pi≤4) from hc)
  have hs0:srcOk 1000 (mr,0,0):=⟨hmr,by simp,by simp⟩
  have h12a:(0:Int)≤12:=by omega
  have h12b:(12:Int)≤12:=by omega
  refine oS fun _ hK1=>?_;refine oW P3 ?_;simp only[go_sem];repeat(with_reducible first|refine oA ?_|refine And.intro (by first|exact⟨hs3.le (by omega),h12a,h12b⟩|with_unfolding_all exact⟨hs3.le (by omega),h12a,h12b⟩) ?_)
  refine hK1 _ ?_;refine oS fun _ hK2=>?_;refine oW P3 ?_;simp only[go_sem];repeat(with_reducible first|refine oA ?_|refine And.intro (by first|exact⟨hs3.le (by omega),h12a,h12b⟩|with_unfolding_all exact⟨hs3.le (by omega),h12a,h12b⟩) ?_)
  refine hK2 _ ?_;refine oS fun _ hK3=>?_;refine oW P3 ?_;simp only[List.nodup_nil,go_sem];repeat(with_reducible first|refine oA ?_|refine And.intro (by first|exact⟨hs3.le (by omega),h12a,h12b⟩|with_unfolding_all exact⟨hs3.le (by omega),h12a,h12b⟩) ?_)
  refine hK3 _ ?_;refine oS fun _ hK4=>?_;refine oS fun _ hK5=>?_;refine oW P3 ?_;simp only[go_sem];repeat(with_reducible first|refine oA ?_|refine And.intro (by first|exact⟨hs3.le (by omega),h12a,h12b⟩|with_unfolding_all exact⟨hs3.le (by omega),h12a,h12b⟩) ?_)
  refine hK5 _ ?_;refine A1 ?_;refine A7 (ι:={ k:Nat // k≤pi.toNat }) (fun k=>⟨[zz,zz,zz,.c (.po 148 0),zz,.c (.po 244 0),.c (.ow 9006),.c (.sc (.int .i64 (k.1))),zz,zz,zz,zz,zz,zz,zz,zz,zz,zz,zz,zz,zz,zz,zz],[(148,.box [.sc (.int .i64 (pi)),.rd [] 26 ((.row 2 (.int .i64))) (ts),.rd [] 95 ((.prod (.int .i64) (.prod (.int .i64) (.prod (.int .i64) (.row 2 (.int .i64)))))) (ns),.rd [] 2 (.int .i64) (os)]),(244,.box [.rd [] 5 (.int .u8) ((R7 A8E k.1 [] (mr,0,0)).2.1),.sc (.int .i64 ((R7 A8E k.1 [] (mr,0,0)).2.2.1)),.sc (.int .u64 ((R7 A8E k.1 [] (mr,0,0)).2.2.2))]),(9006,.tree 26 (.row 2 (.int .i64)) ((R7 A8E k.1 [] (mr,0,0)).1) none)]⟩) (fun k=>pi.toNat - k.1) ⟨0,by omega⟩ ?_ ?_
  ·
   refine oK ?_;simp (maxSteps:=2000000)only[go_sem];all_goals((repeat' refine And.intro ?_ ?_)<;>first|rfl|omega|(simp;done)|(congr 1;done))
  rintro⟨k,hk⟩ K6 hL6
  rcases hit:R7 A8E k [] (mr,0,0) with⟨v3,u3,p3,q3⟩
  have hs3:=(Cost.it B1v k []).at hs0 (by omega) hit
  have hlk:v3.length=k:=(B50 k hs0 (by omega) hit).1
  refine oS fun _ hK7=>?_;refine oS fun _ hK8=>?_;refine oW P3 ?_;simp only[hit,go_sem];repeat(with_reducible first|refine oA ?_|refine And.intro (by first|exact⟨hs3.le (by omega),h12a,h12b⟩|with_unfolding_all exact⟨hs3.le (by omega),h12a,h12b⟩) ?_)
  refine hK8 _ ?_;refine oC rfl ?_ ?_
  ·
   intro c0;refine A2 ?_;simp only[go_sem];refine hK7 _ ?_;refine oS fun _ hK9=>?_;refine A1 ?_;rcases hr4:B2U 12 (u3,p3,q3) with⟨v4,u4,p4,q4⟩
   have hs4:=(B1J).at hs3 (by omega) hr4
   have hnx:(R7 A8E (k+1) [] (mr,0,0))=(v3++[v4],u4,p4,q4):=(X8 hit).trans (L7 hr4)
   refine oW P3 ?_;simp (maxSteps:=2000000)only[List.nodup_cons,List.nodup_nil,List.not_mem_nil,not_false_eq_true,hr4,hlk,go_sem];repeat(with_reducible first|refine oA ?_|refine And.intro (by first|exact⟨hs3.le (by omega),h12a,h12b⟩|with_unfolding_all exact⟨hs3.le (by omega),h12a,h12b⟩) ?_)
   refine hK9 _ ?_;refine oW P3 ?_;simp only[go_sem];repeat(with_reducible first|refine oA ?_|refine And.intro (by first|exact⟨hs3.le (by omega),h12a,h12b⟩|with_unfolding_all exact⟨hs3.le (by omega),h12a,h12b⟩) ?_)
   refine hL6 ⟨k+1,by omega⟩ _ (oK ?_) ?_
   ·
    simp (maxSteps:=2000000)only[go_sem];all_goals(try simp only[hnx])
    all_goals((repeat' refine And.intro ?_ ?_)<;>first|rfl|trivial|exact wk (by omega)|(congr 1;done))
   ·
    first|(simp only[];omega)|omega|(simp;omega)
  intro c0;obtain rfl:k=pi.toNat:=by omega
  refine B6 ?_;simp only[go_sem];refine hK4 _ ?_;refine oS fun _ hK10=>?_;refine oW P3 ?_;simp only[go_sem];repeat(with_reducible first|refine oA ?_|refine And.intro (by first|exact⟨hs3.le (by omega),h12a,h12b⟩|with_unfolding_all exact⟨hs3.le (by omega),h12a,h12b⟩) ?_)
  refine hK10 _ ?_;refine A0 ?_;simp only[hres,go_sem]
  first
   | exact oF
   | refine ⟨?_, oF⟩
     simp only[B4h,hit];try((repeat' refine And.intro ?_ ?_)<;>first|rfl|trivial|(congr 1;done))
def A5A:E4:=fun f=>if f=8 then some (.p A0i) else A7l f
theorem B10:B4 Tryz.prog A5A:=E3 B4T (B0 Tryz.func8 rfl (by decide)) P3
attribute [go_sem] A5A A0i
end Go.Proofs.YtgaogcnfijbahaaGreat
