/-
  Texts of this claim, joined (part 13). No condition beyond those of the theorems.
-/
import Derived.Test.YtflobmmbhaofbaaGreatQ11
namespace Go.Proofs.YtflobmmbhaofbaaGreat
open Go.RowKit
set_option linter.unusedSimpArgs false
set_option linter.unusedVariables false
theorem B0K {inp out most:Int} {li:Bool} (ho:0≤out∧out≤4) (hm:1≤most∧most≤20):Cost 1300 (A4U inp out most li):=by
 refine((A32 li).bnd (b:=1150) fun ts=>?_).le (by omega)
 refine(A7w (b:=1148) fun x h0 h1 _=>?_).le (by omega)
 have h1:=h1 hm.1
 intro n s hs
 rcases hit:X8 (M0 li inp ts.length) (1+x).toNat [] s with⟨ns,s1⟩
 have hs1:=(Cost.it (A3o li inp ts.length) (1+x).toNat []).at hs (by omega) hit
 obtain⟨hl,_⟩:=A97 _ ns s1 hit
 show srcOk n (bnd (X8 (M0 li inp ts.length) (1+x).toNat []) _ s).2
 rw[M5 hit];rcases hid:itI (Q2 ns.length) ns.length ns s1 with⟨ms,s2⟩
 have hs2:=(Cost.itI (A6k ns.length) ns.length ns).at hs1 (by omega) hid
 rw[M5 hid];rcases hio:X8 (M6 (A6b ns.length)) out.toNat [] s2 with⟨os,s3⟩
 have hs3:=(Cost.it (W4 (B04 ns.length)) out.toNat []).at hs2 (by omega) hio
 rw[M5 hio];exact hs3.le (by omega)
theorem C0R {n:Nat} {inp out most:Int} {li:Bool} {s s':T4} {p:A6} (hs:srcOk n s) (hn:104≤n) (hm:1≤most∧most≤20) (e:A4U inp out most li s=(p,s')) :
 p.1=inp∧p.2.1.length≤2∧1≤p.2.2.1.length∧(p.2.2.1.length:Int)≤most∧p.2.2.2.length=out.toNat∧∀nd∈p.2.2.1,A1b nd:=by
 unfold A4U at e;rcases ht:A4O li s with⟨ts,s0⟩
 rw[M5 ht] at e;have hl1:=A83 hs (by omega) ht
 have hs0:=(A32 li).at hs (by omega) ht
 rcases hp:F6 most s0 with⟨x,s1⟩
 rw[M5 hp] at e;obtain⟨_,hx0,hx1,_⟩:=L4 hs0 (by omega) hp
 have hx1:=hx1 hm.1
 rcases hit:X8 (M0 li inp ts.length) (1+x).toNat [] s1 with⟨ns,s2⟩
 rw[M5 hit] at e;obtain⟨hl,ha⟩:=A97 _ ns s2 hit
 rcases hid:itI (Q2 ns.length) ns.length ns s2 with⟨ms,s3⟩
 rw[M5 hid] at e;obtain⟨hl2,ha2⟩:=B78 ha _ ms s3 hid
 rcases hio:X8 (M6 (A6b ns.length)) out.toNat [] s3 with⟨os,s4⟩
 rw[M5 hio] at e;have hlo:os.length=out.toNat:=by have:=A0x (m:=A6b ns.length) (k:=out.toNat) (s:=s3) (xs:=[]);rw[hio] at this;simpa using this
 simp only[Prod.mk.injEq] at e
 obtain⟨e,_⟩:=e;subst e;exact⟨rfl,hl1,by simp only;omega,by simp only;omega,hlo,ha2⟩
def A3l (p:A6) (k y:Int):DM A6:=fun s=>match decide (y=0) with
 | true=>bnd (I9 [-1,0,5,4]) (fun v s=>((v,p.2.1,p.2.2.1,p.2.2.2),s)) s
 | false => match decide (y = 1) with
   | true=>bnd (I9 [(p.2.2.1.length:Int),-1,0]) (fun v s=>((p.1,p.2.1,p.2.2.1,p.2.2.2++[v]),s)) s
   | false => match decide (y = 2) with
     | true=>bnd (A4P 1) (fun nd s=>((p.1,p.2.1,p.2.2.1.set k.toNat nd,p.2.2.2),s)) s
     | false => match decide (y = 3) with
       | true=>((p.1,p.2.1,p.2.2.1++[((5,2,0,[(p.2.2.1.length:Int)]):A4)],p.2.2.2),s)
       | false => match decide (y = 4) with
         | true=>((p.1,p.2.1++[[1,2,3]],p.2.2.1,p.2.2.2),s)
         | false => match decide (y = 5) with
           | true=>bnd (U4 2) (fun o s=>((p.1,p.2.1,p.2.2.1++List.replicate (24 - p.2.2.1.length) ((2,1,0,[]):A4)++(match o with|true=>[((14,5,0,[]):A4)]|false=>[]),p.2.2.2),s)) s
           | false=>(p,s)
theorem B54 (p:A6) (k y:Int):Cost 26 (A3l p k y) :=
 Cost.ite (((N4 _).bnd (b:=0) fun _=>Cost.pure _).le (by omega)) (Cost.ite (((N4 _).bnd (b:=0) fun _=>Cost.pure _).le (by omega)) (Cost.ite ((B0P 1).bnd (b:=0) fun _=>Cost.pure _)
  (Cost.ite ((Cost.pure _).le (by omega)) (Cost.ite ((Cost.pure _).le (by omega)) (Cost.ite (((a6 2).bnd (b:=0) fun _=>Cost.pure _).le (by omega)) ((Cost.pure p).le (by omega)))))))
def l9:DM A6:=bnd (I9 [1,1,2,0]) fun inp s=>bnd (F6 2) (fun x s=>bnd (U4 3) (fun o s=>bnd (A4U inp (1+x) 9 (o && decide (0 < inp))) (fun p s=>bnd (F6 p.2.2.1.length) (fun k s=>bnd (F6 24) (fun y s=>A3l p k y s) s) s) s) s) s
theorem B8C:Cost 1400 l9:=by
 refine(B0M (b:=1390) (by simp) fun inp _=>?_).le (by omega)
 refine(A7w (b:=1380) fun x h0 h1 _=>?_).le (by omega)
 have h1:=h1 (by omega)
 refine((a6 3).bnd (b:=1370) fun o=>?_).le (by omega)
 refine((B0K (by omega) (by omega)).bnd (b:=40) fun p=>?_).le (by omega)
 refine((H4 _).bnd (b:=30) fun k=>?_).le (by omega)
 exact((H4 24).bnd (b:=26) fun y=>B54 p k y).le (by omega)
end Go.Proofs.YtflobmmbhaofbaaGreat
