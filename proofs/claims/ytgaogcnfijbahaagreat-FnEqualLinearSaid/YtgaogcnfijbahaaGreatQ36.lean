/-
  Texts of this claim, joined (part 36). No condition beyond those of the theorems.
-/
import Derived.Test.YtgaogcnfijbahaaGreatQ34
import Derived.Test.YtgaogcnfijbahaaGreatQ35
import Derived.Test.YtgaogcnfijbahaaGreatQ33
import Derived.Test.YtgaogcnfijbahaaGreatQ18
namespace Go.Proofs.YtgaogcnfijbahaaGreat
open Go.RowKit
set_option linter.unusedSimpArgs false
set_option linter.unusedVariables false
set_option maxRecDepth 100000
set_option maxHeartbeats 8000000
def B3B:E4:=fun f=>match B0U f with
 | some k=>some k
 | none=>A8b f
theorem B6M:B4 Tryz.prog B3B:=N2 B4g B0T
attribute [go_sem] B3B T0
def B2k:E4:=fun f=>match B3B f with
 | some k=>some k
 | none=>A1w f
theorem A5D:B4 Tryz.prog B2k:=N2 B6M A3B
attribute [go_sem] B2k T0
def A2H:Con:=⟨[.val (.int .i64)],[⟨.bool,true⟩],fun x=>J3 x.1 1 17=true,fun x=>A1R x.1⟩
theorem B6l:C9 Tryz.prog 76 A2H:=by
  refine A4 Tryz.func76 rfl ?_
  have hres:Tryz.f76.results.toList=[.tmp 2]:=rfl
  rintro⟨(x:Int),_⟩ hc hL
  simp only[A2H,go_sem] at hL
  simp only[A2H,St.init,St.initG,Tryz.ntmps76,go_sem] 
  have hx:J3 x 1 17=true:=hc
  obtain⟨hx1,hx2⟩:=C1.1 hx
  have hk:=B1I hx
  have hk1:=hk.1
  have hkl:A5Y.length=17:=rfl
  have hw:IntKind.i64.wrap (x - 1)=x - 1:=F3 (by omega)
  refine oS fun _ hK1=>?_;refine oW A5D ?_;simp only[go_sem];refine hK1 _ ?_;refine oS fun _ hK2=>?_;refine oW A5D ?_;simp (maxSteps:=2000000)only[hx,hw,hk1,go_sem];repeat' (with_reducible first|refine oA ?_|refine oT (fun g1=>?_) (fun g1=>?_)|refine oE (fun g1=>?_) (fun g1=>?_))
  all_goals
   refine hK2 _ ?_;refine A0 ?_;simp only[hres,go_sem];first|exact oF|(refine⟨?_,oF⟩;exact C4l hx)
def A6u:E4:=fun f=>if f=76 then some (.p A2H) else B2k f
theorem M5:B4 Tryz.prog A6u:=E3 B6l (B0 Tryz.func76 rfl (by decide)) A5D
attribute [go_sem] A6u A2H
def A3K:Con:=⟨[.val ((.prod (.int .i64) (.prod (.row 26 (.row 2 (.int .i64))) (.prod (.row 95 (.prod (.int .i64) (.prod (.int .i64) (.prod (.int .i64) (.row 2 (.int .i64)))))) (.row 2 (.int .i64))))))],[⟨(.row 2 (.int .i64)),true⟩],fun x=>C0 x.1=true,fun x=>G3 x.1⟩
theorem B9r:C9 Tryz.prog 75 A3K:=by
  refine A4 Tryz.func75 rfl ?_
  have hres:Tryz.f75.results.toList=[.tmp 2]:=rfl
  rintro⟨⟨(pi:Int),(ts:List (List Int)),(ns:List A6),(os:List Int)⟩,_⟩ hc hL
  simp only[A3K,go_sem] at hL
  simp only[A3K,St.init,St.initG,Tryz.ntmps75,go_sem] 
  have hF:C0 (pi,ts,ns,os)=true:=hc
  have hn24:ns.length≤24:=(A8 hF).1
  have hml:(H7 (pi,ts,ns,os)).length=ns.length:=B1L hF
  refine oS fun _ hK1=>?_;refine oW M5 ?_;simp only[go_sem];refine hK1 _ ?_;refine oS fun _ hK2=>?_;refine oW M5 ?_;simp only[List.nodup_nil,go_sem];repeat(with_reducible refine oA ?_)
  refine hK2 _ ?_;refine oS fun _ hK3=>?_;refine oS fun _ hK4=>?_;refine oW M5 ?_;simp only[go_sem];repeat(with_reducible first|refine oA ?_|refine And.intro (by first|exact hF) ?_)
  refine hK4 _ ?_;refine A1 ?_;refine A7 (ι:={ k:Nat // k≤(H7 (pi,ts,ns,os)).length }) (fun k=>⟨[zz,zz,zz,.c (.ow 9003),zz,zz,zz,zz,.c (.rd [] 4 (.bool) ((H7 (pi,ts,ns,os)))),.c (.sc (.int .i64 ((H7 (pi,ts,ns,os)).length))),.c (.sc (.int .i64 (k.1))),zz,zz,zz,zz,zz,zz,zz,zz,zz,zz,zz],[(9003,.row 2 (.int .i64) (A1N (H7 (pi,ts,ns,os)) k.1) [])]⟩) (fun k=>(H7 (pi,ts,ns,os)).length - k.1) ⟨0,by simp⟩ ?_ ?_
  ·
   refine oK ?_;simp (maxSteps:=2000000)only[go_sem];all_goals(first|rfl|((repeat' refine And.intro ?_ ?_)<;>first|rfl|simp))
  rintro⟨k,hk⟩ K5 hL5
  have hnl:=A2K (H7 (pi,ts,ns,os)) k
  refine oS fun _ hK6=>?_;refine oW M5 ?_;simp only[go_sem];refine hK6 _ ?_;refine oS fun _ hK7=>?_;refine oC rfl ?_ ?_
  ·
   intro c0;refine A2 ?_;simp only[go_sem];refine hK7 _ ?_;refine oS fun _ hK8=>?_;refine A1 ?_;refine oS fun _ hK9=>?_;refine oW M5 ?_;simp (maxSteps:=2000000)only[go_sem];repeat(with_reducible refine oA ?_)
   refine hK9 _ ?_;refine oS fun _ hK10=>?_;refine oW M5 ?_;simp only[go_sem];refine hK10 _ ?_;refine oC rfl ?_ ?_
   ·
    intro c1;have hnx:=C5D (M:=(H7 (pi,ts,ns,os))) (k:=k) (by first|assumption|(clear hK1 hK2 hK3 hK4 hL5 hK6 hK7 hK8 hK9 hK10;simp_all))
    refine oW M5 ?_;simp (maxSteps:=2000000)only[go_sem];repeat(with_reducible refine oA ?_)
    refine hK8 _ ?_;refine oW M5 ?_;simp only[go_sem];refine hL5 ⟨k+1,by omega⟩ _ (oK ?_) ?_
    ·
     simp (maxSteps:=2000000)only[go_sem];all_goals((repeat' refine And.intro ?_ ?_)<;>first|rfl|exact wk (by omega)|exact hnx.symm|(congr 1;exact hnx.symm)|(congr 1;done))
    ·
     first|(simp only[];omega)|omega|(simp;omega)
   intro c1;have hnx:=C55 (M:=(H7 (pi,ts,ns,os))) (k:=k) (by first|assumption|(clear hK1 hK2 hK3 hK4 hL5 hK6 hK7 hK8 hK9 hK10;simp_all))
   refine A2 ?_;simp only[go_sem];refine hK8 _ ?_;refine oW M5 ?_;simp only[go_sem];refine hL5 ⟨k+1,by omega⟩ _ (oK ?_) ?_
   ·
    simp (maxSteps:=2000000)only[go_sem];all_goals((repeat' refine And.intro ?_ ?_)<;>first|rfl|exact wk (by omega)|exact hnx.symm|(congr 1;exact hnx.symm)|(congr 1;done))
   ·
    first|(simp only[];omega)|omega|(simp;omega)
  intro c0;refine B6 ?_;simp only[go_sem];refine hK3 _ ?_;refine oS fun _ hK11=>?_;refine oW M5 ?_;simp only[go_sem];refine hK11 _ ?_;refine A0 ?_;simp only[hres,go_sem]
  first
   | exact oF
   | refine ⟨?_, oF⟩
     have hke:k=ns.length:=by omega
     clear hK1 hK2 hK3 hK4 hL5 hK6 hK7 hK11;subst hke
     rfl
def A8r:E4:=fun f=>if f=75 then some (.p A3K) else A6u f
theorem H3:B4 Tryz.prog A8r:=E3 B9r (B0 Tryz.func75 rfl (by decide)) M5
attribute [go_sem] A8r A3K
def A1n:Con:=⟨[.val ((.prod (.int .i64) (.prod (.row 26 (.row 2 (.int .i64))) (.prod (.row 95 (.prod (.int .i64) (.prod (.int .i64) (.prod (.int .i64) (.row 2 (.int .i64)))))) (.row 2 (.int .i64))))))],[⟨(.prod (.int .i64) (.prod (.row 26 (.row 2 (.int .i64))) (.prod (.row 95 (.prod (.int .i64) (.prod (.int .i64) (.prod (.int .i64) (.row 2 (.int .i64)))))) (.row 2 (.int .i64))))),true⟩],fun x=>B9 x.1=true,fun x=>D0 x.1⟩
theorem B86:C9 Tryz.prog 82 A1n:=by
  refine A4 Tryz.func82 rfl ?_
  have hres:Tryz.f82.results.toList=[.cell 2 28]:=rfl
  rintro⟨⟨(pi:Int),(ts:List (List Int)),(ns:List A6),(os:List Int)⟩,_⟩ hc hL
  simp only[A1n,go_sem] at hL
  simp only[A1n,St.init,St.initG,Tryz.ntmps82,go_sem] 
  have hP:B9 (pi,ts,ns,os)=true:=hc
  have hF:=(B8 hP).1
  have hK0:=B1u hP
  obtain⟨kp,hkp⟩:∃kp,G3 (pi,ts,ns,os)=kp:=⟨_,rfl⟩
  rw[hkp] at hK0;have hK:KeepOk (pi,ts,ns,os) kp:=hK0
  have hfp:B1x (pi,ts,ns,os):=hK.fits
  have hfl:B04 ts:=hfp.1
  have hn24:ns.length≤24:=hK.n24
  have hk24:kp.length≤24:=hK.k24
  have hrg:N9 ns.length kp=true:=hK.rng
  have ho4:os.length≤4:=hK.o4
  have hoi:N9 ns.length os=true:=hK.outs
  have hfr:∀x∈ns,x.2.2.2.length≤23∧N9 ns.length x.2.2.2=true:=hK.frs
  have hby:(byL ns.length kp kp.length).length=ns.length:=A6I _ _ _
  have hmo:os.length≤1000∧N9 (byL ns.length kp kp.length).length os=true:=⟨by omega,by rw[hby];exact hoi⟩
  have hnr:J3 (ns.length:Int) 0 1099511627776=true:=J8 (by omega) (by omega)
  refine oS fun _ hK1=>?_;refine oW H3 ?_;simp only[go_sem];refine hK1 _ ?_;refine oS fun _ hK2=>?_
  refine oR H3
    [[],[0],[],[2],[0,1,2,3],[0,1,2,3,4],[0,1,2,3,4,5],[0,1,2,3,4,5,6]]
    [[],[],[292,293,294,295,296,297,298,299,300,301,302,303,304,305,306,307],[292,293,294,295,296,297,298,299,300,301,302,303,304,305,306,307],[],[],[],[]]
    [[],[292,293,294,295,296,297,298,299,300,301,302,303,304,305,306,307],[],[],[],[],[],[]] (by kernel_rfl) (by kernel_rfl) (A9 (acc:=[]) ?_)
  simp (maxSteps:=2000000)only[hkp,go_sem];repeat(with_reducible first|refine oD ?_|refine And.intro (by first|exact hF|exact hnr) ?_)
  refine hK2 _ ?_;refine oS fun _ hK3=>?_;refine oS fun _ hK4=>?_;refine oW H3 ?_;simp only[go_sem];refine hK4 _ ?_;refine A1 ?_;refine A7 (ι:={ k:Nat // k≤kp.length }) (fun k=>⟨[zz,.c (.po 116 0),.c (.po 132 0),.c (.ow 9003),.c (.ow 9004),zz,zz,zz,zz,zz,zz,zz,zz,zz,zz,zz,zz,.c (.ow 9003),.c (.sc (.int .i64 (kp.length))),.c (.sc (.int .i64 (k.1))),zz,zz,zz,zz,zz,zz,zz,zz,zz,zz,zz,zz,zz,zz,zz,zz,zz,zz,zz,zz,zz,zz,zz,zz,zz,zz,zz,zz,zz,zz,zz,zz,zz,zz,zz,zz,zz,zz,zz,zz,zz,zz,zz],[(116,.box [.sc (.int .i64 (pi)),.rd [] 26 ((.row 2 (.int .i64))) (ts),.rd [] 95 ((.prod (.int .i64) (.prod (.int .i64) (.prod (.int .i64) (.row 2 (.int .i64)))))) (ns),.rd [] 2 (.int .i64) (os)]),(132,.box [.sc (.int .i64 (0)),.sc (.slice none 0 0),.sc (.slice none 0 0),.sc (.slice none 0 0)]),(9003,.row 2 (.int .i64) (kp) []),(9004,.row 2 (.int .i64) ((byL ns.length kp k.1)) [])]⟩) (fun k=>kp.length - k.1) ⟨0,by simp⟩ ?_ ?_
  ·
   refine oK ?_;simp (maxSteps:=2000000)only[go_sem];all_goals((repeat' refine And.intro ?_ ?_)<;>first|rfl|(simp[byL];done)|(congr 1;done))
  rintro⟨k,hk⟩ K5 hL5
  have hbk:(byL ns.length kp k).length=ns.length:=A6I _ _ _
  refine oS fun _ hK6=>?_;refine oW H3 ?_;simp only[go_sem];refine hK6 _ ?_;refine oS fun _ hK7=>?_;refine oC rfl ?_ ?_
  ·
   intro c0;obtain⟨hi1,hi2⟩:=U5 hrg (D6 (d:=(0:Int)) (show k < kp.length by omega))
   refine A2 ?_;simp only[go_sem];refine hK7 _ ?_;refine oS fun _ hK8=>?_;refine A1 ?_;refine oS fun _ hK9=>?_;refine oW H3 ?_;simp (maxSteps:=2000000)only[go_sem];repeat(with_reducible refine oA ?_)
   refine hK9 _ ?_;refine oW H3 ?_;simp (maxSteps:=2000000)only[List.length_replicate,hbk,go_sem];repeat(with_reducible refine oA ?_)
   refine hK8 _ ?_;refine oW H3 ?_;simp only[go_sem];refine hL5 ⟨k+1,by omega⟩ _ (oK ?_) ?_
   ·
    simp (maxSteps:=2000000)only[go_sem];all_goals((repeat' refine And.intro ?_ ?_)<;>first|rfl|exact wk (by omega)|(congr 1;done))
   ·
    first|(simp only[];omega)|omega|(simp;omega)
  intro c0;have hke:k=kp.length:=by omega
  have hmok:os.length≤1000∧N9 (byL ns.length kp k).length os=true:=by rw[hke];exact hmo
  refine B6 ?_;simp only[go_sem];refine hK3 _ ?_;refine oS fun _ hK10=>?_
  refine oR H3
    [[],[0],[],[2],[2,3],[],[5],[],[2,3,4,5,6,7],[0,1,2,3,4,5,6,7,8],[],[0,1,2,3,4,5,6,7,8,9,10]]
    [[212,628,629,630,631,632,633,634,635,636,637,638,639,640,641,642,643,692,693,694,695,696,697,698,699,700,701,702,703,704,705,706,707],[212,628,629,630,631,632,633,634,635,636,637,638,639,640,641,642,643,692,693,694,695,696,697,698,699,700,701,702,703,704,705,706,707],[212],[212],[212],[212,628,629,630,631,632,633,634,635,636,637,638,639,640,641,642,643],[212,628,629,630,631,632,633,634,635,636,637,638,639,640,641,642,643],[212,628,629,630,631,632,633,634,635,636,637,638,639,640,641,642,643],[212],[212],[628,629,630,631,632,633,634,635,636,637,638,639,640,641,642,643,692,693,694,695,696,697,698,699,700,701,702,703,704,705,706,707],[]]
    [[],[],[],[],[628,629,630,631,632,633,634,635,636,637,638,639,640,641,642,643],[],[],[],[692,693,694,695,696,697,698,699,700,701,702,703,704,705,706,707],[],[212],[]] (by kernel_rfl) (by kernel_rfl) (A9 (acc:=[]) ?_)
  simp (maxSteps:=2000000)only[List.nodup_cons,List.nodup_nil,List.not_mem_nil,not_false_eq_true,go_sem];repeat(with_reducible first|refine oD ?_|refine And.intro (by first|exact hfl|exact hmok) ?_)
  refine hK10 _ ?_;refine oS fun _ hK11=>?_;refine oS fun _ hK12=>?_;refine oW H3 ?_;simp only[go_sem];refine hK12 _ ?_;refine A1 ?_;refine H8 (P9 _ 212 2 9012 95 ((.prod (.int .i64) (.prod (.int .i64) (.prod (.int .i64) (.row 2 (.int .i64)))))) (by decide)) ?_;simp (maxSteps:=2000000)only[go_sem];refine A7 (ι:={ k:Nat // k≤kp.length }) (fun k=>⟨[zz,.c (.po 116 0),.c (.po 132 0),zz,.c (.ow 9004),zz,zz,.c (.po 212 0),zz,zz,zz,zz,zz,zz,zz,zz,zz,zz,zz,zz,zz,zz,zz,zz,zz,zz,zz,zz,zz,zz,zz,zz,zz,zz,zz,zz,zz,zz,zz,.c (.ow 9003),.c (.sc (.int .i64 (kp.length))),.c (.sc (.int .i64 (k.1))),zz,zz,zz,zz,zz,zz,zz,zz,zz,zz,zz,zz,zz,zz,zz,zz,zz,zz,zz,zz,zz],[(116,.box [.sc (.int .i64 (pi)),.rd [] 26 ((.row 2 (.int .i64))) (ts),.rd [] 95 ((.prod (.int .i64) (.prod (.int .i64) (.prod (.int .i64) (.row 2 (.int .i64)))))) (ns),.rd [] 2 (.int .i64) (os)]),(132,.box [.sc (.int .i64 (0)),.sc (.slice none 0 0),.sc (.slice none 0 0),.sc (.slice none 0 0)]),(9003,.row 2 (.int .i64) (kp) []),(9004,.row 2 (.int .i64) ((byL ns.length kp kp.length)) []),(212,.box [.sc (.int .i64 (pi)),.ow 9011,.ow 9012,.ow 9013]),(9011,.tree 26 (.row 2 (.int .i64)) (ts) none),(9012,.tree 95 (.prod (.int .i64) (.prod (.int .i64) (.prod (.int .i64) (.row 2 (.int .i64))))) ((kp.take k.1).map (A3Y ns (byL ns.length kp kp.length))) none),(9013,.row 2 (.int .i64) (A5p (byL ns.length kp kp.length) os) [])]⟩) (fun k=>kp.length - k.1) ⟨0,by simp⟩ ?_ ?_
  ·
   refine oK ?_;simp (maxSteps:=2000000)only[go_sem];all_goals((repeat' refine And.intro ?_ ?_)<;>first|rfl|(rw[hke];done)|(rw[hke];rfl)|(congr 1;done)|simp)
  rintro⟨k,hk⟩ K13 hL13
  have hkl:((kp.take k).map (A3Y ns (byL ns.length kp kp.length))).length≤24:=by rw[List.length_map,List.length_take];omega
  refine oS fun _ hK14=>?_;refine oW H3 ?_;simp only[go_sem];refine hK14 _ ?_;refine oS fun _ hK15=>?_;refine oC rfl ?_ ?_
  ·
   intro c1;obtain⟨hi1,hi2⟩:=U5 hrg (D6 (d:=(0:Int)) (show k < kp.length by omega))
   obtain⟨hx1,hx2⟩:=hfr _ (D6 (d:=((0,0,0,[]):A6)) (show (kp.getD k 0).toNat < ns.length by omega))
   have hmc:(ns.getD (Int.toNat (kp.getD k 0)) ((0,0,0,[]):A6)).2.2.2.length≤1000∧N9 (byL ns.length kp kp.length).length (ns.getD (Int.toNat (kp.getD k 0)) ((0,0,0,[]):A6)).2.2.2=true:=⟨Nat.le_trans hx1 (by decide),by rw[hby];exact hx2⟩
   have hnx:(kp.take k).map (A3Y ns (byL ns.length kp kp.length))++[((ns.getD (Int.toNat (kp.getD k 0)) ((0,0,0,[]):A6)).1,(ns.getD (Int.toNat (kp.getD k 0)) ((0,0,0,[]):A6)).2.1,(ns.getD (Int.toNat (kp.getD k 0)) ((0,0,0,[]):A6)).2.2.1,List.map (fun q=>(byL ns.length kp kp.length).getD (Int.toNat q) 0) (ns.getD (Int.toNat (kp.getD k 0)) ((0,0,0,[]):A6)).2.2.2)]=(kp.take (k+1)).map (A3Y ns (byL ns.length kp kp.length)):=C1U (0:Int) (by omega)
   refine A2 ?_;simp only[go_sem];refine hK15 _ ?_;refine oS fun _ hK16=>?_;refine A1 ?_;refine oS fun _ hK17=>?_;refine oW H3 ?_;simp only[go_sem];repeat(with_reducible refine oA ?_)
   refine hK17 _ ?_;refine oS fun _ hK18=>?_;refine oW H3 ?_;simp (maxSteps:=2000000)only[go_sem];repeat(with_reducible refine oA ?_)
   refine hK18 _ ?_;refine oS fun _ hK19=>?_;refine oW H3 ?_;simp (maxSteps:=2000000)only[go_sem];repeat(with_reducible first|refine oA ?_|refine And.intro (by first|exact hmc) ?_)
   refine hK19 _ ?_;refine oW H3 ?_;simp (maxSteps:=2000000)only[List.nodup_cons,List.nodup_nil,List.not_mem_nil,not_false_eq_true,go_sem];repeat(with_reducible first|refine oA ?_|refine And.intro (by first|omega) ?_)
   refine hK16 _ ?_;refine oW H3 ?_;simp only[go_sem];refine hL13 ⟨k+1,by omega⟩ _ (oK ?_) ?_
   ·
    simp (maxSteps:=2000000)only[go_sem];all_goals((repeat' refine And.intro ?_ ?_)<;>first|rfl|exact wk (by omega)|exact hnx|(congr 1;exact hnx)|(congr 1;done))
   ·
    first|(simp only[];omega)|omega|(simp;omega)
  intro c1;refine B6 ?_;simp only[go_sem];refine hK11 _ ?_;refine oS fun _ hK20=>?_;refine oW H3 ?_;simp only[go_sem];repeat(with_reducible refine oA ?_)
  refine hK20 _ ?_;refine A0 ?_;simp only[hres,go_sem]
  first
   | exact oF
   | refine ⟨?_, oF⟩
     have hk3:k=kp.length:=by omega
     clear hK1 hK2 hK3 hK4 hL5 hK6 hK7 hK10 hK11 hK12 hL13 hK14 hK15 hK20;subst hk3;unfold D0;rw[hkp];unfold A4v;rw[List.take_of_length_le (Nat.le_refl _)]
     try rfl
def A7O:E4:=fun f=>if f=82 then some (.p A1n) else A8r f
theorem P4:B4 Tryz.prog A7O:=E3 B86 (B0 Tryz.func82 rfl (by decide)) H3
attribute [go_sem] A7O A1n
def A3W:Con:=⟨[.val ((.prod (.int .i64) (.prod (.row 26 (.row 2 (.int .i64))) (.prod (.row 95 (.prod (.int .i64) (.prod (.int .i64) (.prod (.int .i64) (.row 2 (.int .i64)))))) (.row 2 (.int .i64))))))],[⟨.bool,true⟩],fun x=>C0 x.1=true,fun x=>W7 x.1⟩
theorem C0q:C9 Tryz.prog 38 A3W:=by
  refine A4 Tryz.func38 rfl ?_
  have hres:Tryz.f38.results.toList=[.tmp 2]:=rfl
  rintro⟨⟨(pi:Int),(ts:List (List Int)),(ns:List A6),(os:List Int)⟩,_⟩ hc hL
  simp only[A3W,go_sem] at hL
  simp only[A3W,St.init,St.initG,Tryz.ntmps38,go_sem] 
  have hF:C0 (pi,ts,ns,os)=true:=hc
  have hn24:ns.length≤24:=(A8 hF).1
  have hrg:=A1F (p:=(pi,ts,ns,os))
  have hnl:(G3 (pi,ts,ns,os)).length≤ns.length:=A2K _ _
  obtain⟨kp,hkp⟩:∃kp,G3 (pi,ts,ns,os)=kp:=⟨_,rfl⟩
  rw[hkp] at hrg hnl
  have hrg:∀j,j < kp.length→0≤kp.getD j 0∧kp.getD j 0 < (ns.length:Int):=hrg
  have hlB:W7 (pi,ts,ns,os)=kp.all (fun i:Int=>A1R (ns.getD i.toNat ((0,0,0,[]):A6)).1):=by unfold W7;rw[hkp];rfl
  refine oS fun _ hK1=>?_;refine oW P4 ?_;simp only[go_sem];refine hK1 _ ?_;refine oS fun _ hK2=>?_;refine oS fun _ hK3=>?_;refine oW P4 ?_;simp only[hkp,go_sem];repeat(with_reducible first|refine oA ?_|refine And.intro (by first|exact hF) ?_)
  refine hK3 _ ?_;refine A1 ?_;refine A7 (ι:={ k:Nat // k≤kp.length∧(kp.take k).all (fun i:Int=>A1R (ns.getD i.toNat ((0,0,0,[]):A6)).1)=true }) (fun k=>⟨[zz,.c (.po 116 0),zz,zz,zz,zz,.c (.ow 9003),.c (.sc (.int .i64 (kp.length))),.c (.sc (.int .i64 (k.1))),zz,zz,zz,zz,zz,zz,zz,zz,zz,zz,zz,zz],[(116,.box [.sc (.int .i64 (pi)),.rd [] 26 ((.row 2 (.int .i64))) (ts),.rd [] 95 ((.prod (.int .i64) (.prod (.int .i64) (.prod (.int .i64) (.row 2 (.int .i64)))))) (ns),.rd [] 2 (.int .i64) (os)]),(9003,.row 2 (.int .i64) (kp) [])]⟩) (fun k=>kp.length - k.1) ⟨0,by simp⟩ ?_ ?_
  ·
   refine oK ?_;simp (maxSteps:=2000000)only[go_sem];all_goals(first|rfl|((repeat' refine And.intro ?_ ?_)<;>first|rfl|simp))
  rintro⟨k,hk,hp⟩ K4 hL4
  refine oS fun _ hK5=>?_;refine oW P4 ?_;simp only[go_sem];refine hK5 _ ?_;refine oS fun _ hK6=>?_;refine oC rfl ?_ ?_
  ·
   intro c0;obtain⟨hi1,hi2⟩:=hrg k (by omega)
   have hki:J3 (ns.getD (Int.toNat (kp.getD k 0)) ((0,0,0,[]):A6)).1 1 17=true:=C4S (p:=(pi,ts,ns,os)) hF (by show (kp.getD k 0).toNat < ns.length;omega)
   refine A2 ?_;simp only[go_sem];refine hK6 _ ?_;refine oS fun _ hK7=>?_;refine A1 ?_;refine oS fun _ hK8=>?_;refine oW P4 ?_;simp only[go_sem];repeat(with_reducible refine oA ?_)
   refine hK8 _ ?_;refine oS fun _ hK9=>?_;refine oW P4 ?_;simp (maxSteps:=2000000)only[go_sem];repeat(with_reducible first|refine oA ?_|refine And.intro (by first|exact hki) ?_)
   refine hK9 _ ?_;refine oC rfl ?_ ?_
   ·
    intro c1;refine oS fun _ hK10=>?_;refine oW P4 ?_;simp only[go_sem];refine hK10 _ ?_;refine A0 ?_;simp only[hres,go_sem]
    first
     | exact oF
     | refine ⟨?_, oF⟩
       rw[hlB];exact(N5 (k:=k) (d:=0) (by omega) (by first|assumption|(clear hp;clear hK1 hK2 hK3 hL4 hK5 hK6 hK7 hK8 hK9 hK10;simp_all))).symm
   intro c1;refine A2 ?_;simp only[go_sem];refine hK7 _ ?_;refine oW P4 ?_;simp only[go_sem];refine hL4 ⟨k+1,by omega,L6 (d:=0) (by omega) hp (by first|assumption|(clear hK1 hK2 hK3 hL4 hK5 hK6 hK7 hK8 hK9;simp_all))⟩ _ (oK ?_) ?_
   ·
    simp (maxSteps:=2000000)only[go_sem];first|rfl|exact wk (by omega)
   ·
    first|(simp only[];omega)|omega|(simp;omega)
  intro c0;refine B6 ?_;simp only[go_sem];refine hK2 _ ?_;refine oS fun _ hK11=>?_;refine oW P4 ?_;simp only[go_sem];refine hK11 _ ?_;refine A0 ?_;simp only[hres,go_sem]
  first
   | exact oF
   | refine ⟨?_, oF⟩
     rw[hlB];exact(L3 hp (by omega)).symm
def A9w:E4:=fun f=>if f=38 then some (.p A3W) else A7O f
theorem S7:B4 Tryz.prog A9w:=E3 C0q (B0 Tryz.func38 rfl (by decide)) P4
attribute [go_sem] A9w A3W
def A20:Con:=⟨[.val ((.prod (.int .i64) (.prod (.row 26 (.row 2 (.int .i64))) (.prod (.row 95 (.prod (.int .i64) (.prod (.int .i64) (.prod (.int .i64) (.row 2 (.int .i64)))))) (.row 2 (.int .i64))))))],[⟨.int .i64,true⟩],fun x=>C0 x.1=true,fun x=>(A1I x.1:Int)⟩
theorem B6f:C9 Tryz.prog 39 A20:=by
  refine A4 Tryz.func39 rfl ?_
  have hres:Tryz.f39.results.toList=[.tmp 2]:=rfl
  rintro⟨⟨(pi:Int),(ts:List (List Int)),(ns:List A6),(os:List Int)⟩,_⟩ hc hL
  simp only[A20,go_sem] at hL
  simp only[A20,St.init,St.initG,Tryz.ntmps39,go_sem] 
  have hF:C0 (pi,ts,ns,os)=true:=hc
  have hn24:ns.length≤24:=(A8 hF).1
  have hrg:=A1F (p:=(pi,ts,ns,os))
  have hnl:(G3 (pi,ts,ns,os)).length≤ns.length:=A2K _ _
  obtain⟨kp,hkp⟩:∃kp,G3 (pi,ts,ns,os)=kp:=⟨_,rfl⟩
  rw[hkp] at hrg hnl
  have hrg:∀j,j < kp.length→0≤kp.getD j 0∧kp.getD j 0 < (ns.length:Int):=hrg
  have hcT:A1I (pi,ts,ns,os)=A5b ns kp kp.length:=by unfold A1I;rw[hkp]
  refine oS fun _ hK1=>?_;refine oW S7 ?_;simp only[go_sem];refine hK1 _ ?_;refine oS fun _ hK2=>?_;refine oW S7 ?_;simp only[go_sem];refine hK2 _ ?_;refine oS fun _ hK3=>?_;refine oS fun _ hK4=>?_;refine oW S7 ?_;simp only[hkp,go_sem];repeat(with_reducible first|refine oA ?_|refine And.intro (by first|exact hF) ?_)
  refine hK4 _ ?_;refine A1 ?_;refine A7 (ι:={ k:Nat // k≤kp.length }) (fun k=>⟨[zz,.c (.po 116 0),zz,.c (.sc (.int .i64 (A5b ns kp k.1))),zz,zz,zz,.c (.ow 9003),.c (.sc (.int .i64 (kp.length))),.c (.sc (.int .i64 (k.1))),zz,zz,zz,zz,zz,zz,zz,zz,zz,zz,zz,zz,zz,zz],[(116,.box [.sc (.int .i64 (pi)),.rd [] 26 ((.row 2 (.int .i64))) (ts),.rd [] 95 ((.prod (.int .i64) (.prod (.int .i64) (.prod (.int .i64) (.row 2 (.int .i64)))))) (ns),.rd [] 2 (.int .i64) (os)]),(9003,.row 2 (.int .i64) (kp) [])]⟩) (fun k=>kp.length - k.1) ⟨0,by simp⟩ ?_ ?_
  ·
   refine oK ?_;simp (maxSteps:=2000000)only[go_sem];all_goals(first|rfl|((repeat' refine And.intro ?_ ?_)<;>first|rfl|simp))
  rintro⟨k,hk⟩ K5 hL5
  refine oS fun _ hK6=>?_;refine oW S7 ?_;simp only[go_sem];refine hK6 _ ?_;refine oS fun _ hK7=>?_;refine oC rfl ?_ ?_
  ·
   intro c0;obtain⟨hi1,hi2⟩:=hrg k (by omega)
   have hnc:A23 ((ns.getD (Int.toNat (kp.getD k 0)) ((0,0,0,[]):A6)).1,(ns.getD (Int.toNat (kp.getD k 0)) ((0,0,0,[]):A6)).2.1,(ns.getD (Int.toNat (kp.getD k 0)) ((0,0,0,[]):A6)).2.2.1,(ns.getD (Int.toNat (kp.getD k 0)) ((0,0,0,[]):A6)).2.2.2):=B6C (p:=(pi,ts,ns,os)) hF (by show (kp.getD k 0).toNat < ns.length;omega)
   have hnx:A5b ns kp (k+1)=A5b ns kp k+(D4 (ns.getD (Int.toNat (kp.getD k 0)) ((0,0,0,[]):A6))).length:=B1r (by omega)
   have h16:A5b ns kp (k+1)≤16 * (k+1):=C5c (p:=(pi,ts,ns,os)) hF hrg _ (by omega)
   have hse:(D4 ((ns.getD (Int.toNat (kp.getD k 0)) ((0,0,0,[]):A6)).1,(ns.getD (Int.toNat (kp.getD k 0)) ((0,0,0,[]):A6)).2.1,(ns.getD (Int.toNat (kp.getD k 0)) ((0,0,0,[]):A6)).2.2.1,(ns.getD (Int.toNat (kp.getD k 0)) ((0,0,0,[]):A6)).2.2.2)).length=(D4 (ns.getD (Int.toNat (kp.getD k 0)) ((0,0,0,[]):A6))).length:=rfl
   have hw:IntKind.i64.wrap ((A5b ns kp k:Int)+((D4 ((ns.getD (Int.toNat (kp.getD k 0)) ((0,0,0,[]):A6)).1,(ns.getD (Int.toNat (kp.getD k 0)) ((0,0,0,[]):A6)).2.1,(ns.getD (Int.toNat (kp.getD k 0)) ((0,0,0,[]):A6)).2.2.1,(ns.getD (Int.toNat (kp.getD k 0)) ((0,0,0,[]):A6)).2.2.2)).length:Int))=(A5b ns kp (k+1):Int):=by rw[F3 (by omega)];omega
   refine A2 ?_;simp only[go_sem];refine hK7 _ ?_;refine oS fun _ hK8=>?_;refine A1 ?_;refine oS fun _ hK9=>?_;refine oW S7 ?_;simp only[go_sem];repeat(with_reducible refine oA ?_)
   refine hK9 _ ?_;refine oW S7 ?_;simp (maxSteps:=2000000)only[hw,go_sem];repeat(with_reducible first|refine oA ?_|refine And.intro (by first|exact hnc) ?_)
   refine hK8 _ ?_;refine oW S7 ?_;simp only[go_sem];refine hL5 ⟨k+1,by omega⟩ _ (oK ?_) ?_
   ·
    simp (maxSteps:=2000000)only[go_sem];all_goals((repeat' refine And.intro ?_ ?_)<;>first|rfl|exact wk (by omega)|(congr 1;done))
   ·
    first|(simp only[];omega)|omega|(simp;omega)
  intro c0;have hke:k=kp.length:=by omega
  refine B6 ?_;simp only[go_sem];refine hK3 _ ?_;refine oS fun _ hK10=>?_;refine oW S7 ?_;simp only[go_sem];refine hK10 _ ?_;refine A0 ?_;simp only[hres,go_sem];first|exact oF|(refine⟨?_,oF⟩;rw[hcT,hke])
def A7j:E4:=fun f=>if f=39 then some (.p A20) else A9w f
theorem i6:B4 Tryz.prog A7j:=E3 B6f (B0 Tryz.func39 rfl (by decide)) S7
attribute [go_sem] A7j A20
def B03:Con:=⟨[.val (.int .i64),.val (.int .i64)],[⟨(.row 2 (.int .i64)),true⟩],fun x=>J3 x.1 0 1099511627776=true∧0≤x.2.1∧x.2.1 < x.1,fun x=>L4 (Int.toNat x.1) (Int.toNat x.2.1)⟩
theorem C4g:C9 Tryz.prog 89 B03:=by
  refine A4 Tryz.func89 rfl ?_
  have hres:Tryz.f89.results.toList=[.tmp 4]:=rfl
  rintro⟨(x:Int),(y:Int),_⟩ hc hL
  simp only[B03,go_sem] at hL
  simp only[B03,St.init,St.initG,Tryz.ntmps89,go_sem] 
  obtain⟨hx,hy0,hy1⟩:=(show J3 x 0 1099511627776=true∧0≤y∧y < x from hc)
  obtain⟨hx1,hx2⟩:=C1.1 hx
  refine oS fun _ hK1=>?_;refine oW i6 ?_;simp only[go_sem];refine hK1 _ ?_;refine oS fun _ hK2=>?_;refine oW i6 ?_;simp only[go_sem];repeat(with_reducible first|refine oA ?_|refine And.intro (by first|exact hx) ?_)
  refine hK2 _ ?_;refine oS fun _ hK3=>?_;refine oW i6 ?_;simp only[List.length_replicate,go_sem];repeat(with_reducible refine oA ?_)
  refine hK3 _ ?_;refine oS fun _ hK4=>?_;refine oW i6 ?_;simp only[go_sem];refine hK4 _ ?_;refine A0 ?_;simp only[hres,go_sem];first|exact oF|exact oFr
def B7p:E4:=fun f=>if f=89 then some (.p B03) else A7j f
theorem Y7:B4 Tryz.prog B7p:=E3 C4g (B0 Tryz.func89 rfl (by decide)) i6
attribute [go_sem] B7p B03
def B0a:Con:=⟨[.val ((.row 26 (.row 2 (.int .i64))))],[⟨(.row 2 (.int .i64)),true⟩],fun x=>x.1.flatten.length≤1000000,fun x=>x.1.flatten⟩
theorem C5q:C9 Tryz.prog 87 B0a:=by
  refine A4 Tryz.func87 rfl ?_
  have hres:Tryz.f87.results.toList=[.tmp 2]:=rfl
  rintro⟨(cc:List (List Int)),_⟩ hc hL
  simp only[B0a,go_sem] at hL
  obtain⟨lcc,lcc2⟩:=hL;simp only[B0a,St.init,St.initG,Tryz.ntmps87,go_sem] 
  have hfl:cc.flatten.length≤1000000:=hc
  refine oS fun _ hK1=>?_;refine oW Y7 ?_;simp only[go_sem];refine hK1 _ ?_;refine oS fun _ hK2=>?_;refine oW Y7 ?_;simp only[List.nodup_nil,go_sem];repeat(with_reducible refine oA ?_)
  refine hK2 _ ?_;refine oS fun _ hK3=>?_;refine oS fun _ hK4=>?_;refine oW Y7 ?_;simp only[go_sem];refine hK4 _ ?_;refine A1 ?_;refine A7 (ι:={ k:Nat // k≤cc.length }) (fun k=>⟨[zz,zz,zz,.c (.ow 9003),zz,zz,zz,.c (.rd [] 26 (.row 2 (.int .i64)) (cc)),.c (.sc (.int .i64 (cc.length))),.c (.sc (.int .i64 (k.1))),zz,zz,zz,zz,zz,zz,zz,zz],[(9003,.row 2 (.int .i64) ((cc.take k.1).flatten) [])]⟩) (fun k=>cc.length - k.1) ⟨0,by simp⟩ ?_ ?_
  ·
   refine oK ?_;simp (maxSteps:=2000000)only[go_sem];all_goals(first|rfl|((repeat' refine And.intro ?_ ?_)<;>first|rfl|simp))
  rintro⟨k,hk⟩ K5 hL5
  refine oS fun _ hK6=>?_;refine oW Y7 ?_;simp only[go_sem];refine hK6 _ ?_;refine oS fun _ hK7=>?_;refine oC rfl ?_ ?_
  ·
   intro c0;have hnx:=A77 (xs:=cc) (k:=k) (by omega)
   have hle:=B9Q (xs:=cc) (k:=k) (by omega)
   refine A2 ?_;simp only[go_sem];refine hK7 _ ?_;refine oS fun _ hK8=>?_;refine A1 ?_;refine oS fun _ hK9=>?_;refine oW Y7 ?_;simp only[go_sem];repeat(with_reducible refine oA ?_)
   refine hK9 _ ?_;refine oW Y7 ?_;simp only[go_sem];repeat(with_reducible first|refine oA ?_|refine And.intro (by first|omega) ?_)
   refine hK8 _ ?_;refine oW Y7 ?_;simp only[go_sem];refine hL5 ⟨k+1,by omega⟩ _ (oK ?_) ?_
   ·
    simp (maxSteps:=2000000)only[go_sem];all_goals((repeat' refine And.intro ?_ ?_)<;>first|rfl|exact wk (by omega)|exact hnx|(congr 1;exact hnx)|(congr 1;done))
   ·
    first|(simp only[];omega)|omega|(simp;omega)
  intro c0;have hfd:=B1t (xs:=cc) (k:=k) (by omega)
  refine B6 ?_;simp only[go_sem];refine hK3 _ ?_;refine oS fun _ hK10=>?_;refine oW Y7 ?_;simp only[go_sem];refine hK10 _ ?_;refine A0 ?_;simp only[hres,go_sem];first|exact oF|(refine⟨?_,oF⟩;exact hfd)
def B3e:E4:=fun f=>if f=87 then some (.p B0a) else B7p f
theorem R8:B4 Tryz.prog B3e:=E3 C5q (B0 Tryz.func87 rfl (by decide)) Y7
attribute [go_sem] B3e B0a
end Go.Proofs.YtgaogcnfijbahaaGreat
