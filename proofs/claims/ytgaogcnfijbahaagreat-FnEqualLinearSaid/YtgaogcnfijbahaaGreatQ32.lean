/-
  Texts of this claim, joined (part 32). No condition beyond those of the theorems.
-/
import Derived.Test.YtgaogcnfijbahaaGreatQ26
import Derived.Test.YtgaogcnfijbahaaGreatQ31
import Derived.Test.YtgaogcnfijbahaaGreatQ24
namespace Go.Proofs.YtgaogcnfijbahaaGreat
open Go.RowKit
set_option linter.unusedSimpArgs false
set_option linter.unusedVariables false
set_option maxRecDepth 100000
set_option maxHeartbeats 16000000
def B3q:E4:=fun f=>match A9s f with
 | some k=>some k
 | none=>A50 f
theorem B6i:B4 Tryz.prog B3q:=N2 B55 B11
attribute [go_sem] B3q T0
def B3H:E4:=fun f=>match B3q f with
 | some k=>some k
 | none=>A4L f
theorem Q2:B4 Tryz.prog B3H:=N2 B6i A2m
attribute [go_sem] B3H T0
def A1j:GCon where
  ps:=[.ptr ((.prod (.int .i64) (.prod (.row 26 (.row 2 (.int .i64))) (.prod (.row 95 (.prod (.int .i64) (.prod (.int .i64) (.prod (.int .i64) (.row 2 (.int .i64)))))) (.row 2 (.int .i64)))))),.val ((.row 2 (.int .i64)))]
  os:=[]
  c:=fun x=>C0 x.1.1=true∧x.1.2.1.length=B7 x.1.1.2.2.1
  r:=fun _=>.agg [.ow 10]
  o:=fun x=>[(10,.tree 26 (.row 2 (.int .i64)) (O6 x.1.1.2.2.1 x.1.2.1) none)]
  ok:=by
    rintro⟨⟨⟨(pi:Int),(ts:List (List Int)),(ns:List A6),(os:List Int)⟩,(cs:List Int),_⟩,_⟩
    exact⟨rfl,rfl,by decide⟩
theorem C0C:Z2 Tryz.prog 134 A1j:=by
  refine E1 Tryz.func134 rfl ?_
  have hres:Tryz.f134.results.toList=[.cell 4 89]:=rfl
  rintro⟨⟨⟨(pi:Int),(ts:List (List Int)),(ns:List A6),(os:List Int)⟩,(cs:List Int),_⟩,_⟩ hc hL hO
  simp only[A1j,go_sem] at hL
  simp only[A1j,go_sem] at hO
  simp only[A1j,St.init,St.initG,Tryz.ntmps134,go_sem] 
  obtain⟨hF,hcs⟩:=(show C0 (pi,ts,ns,os)=true∧cs.length=B7 ns from hc)
  have hn24:ns.length≤24:=(A8 hF).1
  have hc384:B7 ns≤384:=A0M (p:=(pi,ts,ns,os)) hF
  have hsl:(O6 ns cs).length=ns.length:=w8 _ _
  refine oS fun _ hK1=>?_;refine oW Q2 ?_;simp only[go_sem];refine hK1 _ ?_;refine oS fun _ hK2=>?_;refine oW Q2 ?_;simp only[go_sem];repeat(with_reducible refine oA ?_)
  refine hK2 _ ?_;refine oS fun _ hK3=>?_;refine oW Q2 ?_;simp only[go_sem];refine hK3 _ ?_;refine oS fun _ hK4=>?_;refine oS fun _ hK5=>?_;refine oW Q2 ?_;simp only[go_sem];refine hK5 _ ?_;refine A1 ?_;refine H8 (P9 _ 180 0 9001 26 ((.row 2 (.int .i64))) (by decide)) ?_;simp (maxSteps:=2000000)only[go_sem];refine A7 (ι:={ k:Nat // k≤ns.length }) (fun k=>⟨[.c (.pt [] ((.prod (.int .i64) (.prod (.row 26 (.row 2 (.int .i64))) (.prod (.row 95 (.prod (.int .i64) (.prod (.int .i64) (.prod (.int .i64) (.row 2 (.int .i64)))))) (.row 2 (.int .i64)))))) (pi,ts,ns,os) 0),.c (.rd [] 2 (.int .i64) (cs)),zz,zz,.c (.po 164 0),.c (.po 180 0),.c (.sc (.int .i64 (T4 ns k.1))),.c (.sc (.int .i64 (k.1))),zz,zz,zz,zz,zz,zz,zz,zz,zz,zz,zz,zz,zz,zz,zz,zz,zz,zz,zz,zz,zz,zz,zz,zz,zz,zz,zz,zz,zz,zz,zz,zz,zz,zz,zz],[(164,.box [.sc (.slice none 0 0)]),(180,.box [.ow 9001]),(9001,.tree 26 (.row 2 (.int .i64)) ((O6 ns cs).take k.1) none)]⟩) (fun k=>ns.length - k.1) ⟨0,by simp⟩ ?_ ?_
  ·
   refine oK ?_;simp (maxSteps:=2000000)only[go_sem];all_goals(first|rfl|((repeat' refine And.intro ?_ ?_)<;>first|rfl|simp))
  rintro⟨k,hk⟩ K6 hL6
  have htk:(List.take k (O6 ns cs)).length≤24:=by rw[List.length_take];omega
  refine oS fun _ hK7=>?_;refine oS fun _ hK8=>?_;refine oW Q2 ?_;simp (maxSteps:=2000000)only[go_sem];repeat(with_reducible refine oA ?_)
  refine hK8 _ ?_;refine oC rfl ?_ ?_
  ·
   intro c0;have hnb:M6 ((ns.getD k ((0,0,0,[]):A6)).1,(ns.getD k ((0,0,0,[]):A6)).2.1,(ns.getD k ((0,0,0,[]):A6)).2.2.1,(ns.getD k ((0,0,0,[]):A6)).2.2.2) 4=true:=A5r (p:=(pi,ts,ns,os)) hF (by show k < ns.length;omega)
   have hnx:T4 ns (k+1)=T4 ns k+(D4 (ns.getD k ((0,0,0,[]):A6))).length:=A0Z (by omega)
   have hle:T4 ns (k+1)≤B7 ns:=B3T (by omega)
   have hw:IntKind.i64.wrap ((T4 ns k:Int)+((D4 (ns.getD k ((0,0,0,[]):A6))).length:Int))=(T4 ns (k+1):Int):=by rw[F3 (by omega)];omega
   have hpt:=C44 (ns:=ns) (c:=cs) (k:=k) (lo:=T4 ns k) (hi:=T4 ns (k+1)) (by omega) rfl hnx
   have hpl:((cs.take (T4 ns (k+1))).drop (T4 ns k)).length≤1099511627776:=by rw[List.length_drop,List.length_take];omega
   refine A2 ?_;simp only[go_sem];refine hK7 _ ?_;refine oS fun _ hK9=>?_;refine A1 ?_;refine oS fun _ hK10=>?_;refine oW Q2 ?_;simp (maxSteps:=2000000)only[go_sem];repeat(with_reducible first|refine oA ?_|refine And.intro (by first|exact hnb) ?_)
   refine hK10 _ ?_;refine oS fun _ hK11=>?_
   refine oR Q2
     [[],[0],[],[],[],[],[4,5],[2,3,4,5,6],[2,3,4,5,6,7],[2,3,4,5,6,7,8],[0,1,2,3,4,5,6,7,8,9],[0,1,2,3,4,5,6,7,8,9,10],[0,1,2,3,4,5,6,7,8,9,10,11]]
     [[660,661,662,663,664,665,666,667,668,669,670,671,672,673,674,675,676],[660,661,662,663,664,665,666,667,668,669,670,671,672,673,674,675,676],[],[],[],[],[],[],[],[],[],[],[]]
     [[],[],[],[],[],[],[],[],[660,661,662,663,664,665,666,667,668,669,670,671,672,673,674,675],[660,661,662,663,664,665,666,667,668,669,670,671,672,673,674,675,676],[],[],[]] (by kernel_rfl) (by kernel_rfl) (A9 (acc:=[]) ?_)
   simp (maxSteps:=2000000)only[List.nodup_cons,List.nodup_nil,List.not_mem_nil,not_false_eq_true,hw,hcs,go_sem];repeat(with_reducible first|refine oD ?_|refine And.intro (by first|exact hpl|omega) ?_)
   refine hK11 _ ?_;refine oW Q2 ?_;simp only[hw,go_sem];refine hK9 _ ?_;refine oW Q2 ?_;simp only[go_sem];refine hL6 ⟨k+1,by omega⟩ _ (oK ?_) ?_
   ·
    simp (maxSteps:=2000000)only[go_sem];all_goals((repeat' refine And.intro ?_ ?_)<;>first|rfl|exact wk (by omega)|exact hpt|(congr 1;exact hpt)|(congr 1;done))
   ·
    first|(simp only[];omega)|omega|(simp;omega)
  intro c0;have hke:(O6 ns cs).take k=O6 ns cs:=List.take_of_length_le (by omega)
  refine B6 ?_;simp only[go_sem];refine hK4 _ ?_;refine oS fun _ hK12=>?_;refine oW Q2 ?_;simp only[go_sem];repeat(with_reducible refine oA ?_)
  refine hK12 _ ?_;refine A0 ?_;simp only[hres,go_sem];first|exact oG|(refine⟨oG,?_⟩;(repeat' refine And.intro ?_ ?_)<;>first|rfl|(rw[hke];done)|(congr 1;done))
def B0C:E4:=fun f=>if f=134 then some (.g A1j) else B3H f
theorem x8:B4 Tryz.prog B0C:=m8 C0C (B0 Tryz.func134 rfl (by decide)) Q2
attribute [go_sem] B0C A1j
def x6:Con:=⟨[.ptr (.prod (.int .i64) (.prod (.row 26 (.row 2 (.int .i64))) (.prod (.row 95 (.prod (.int .i64) (.prod (.int .i64) (.prod (.int .i64) (.row 2 (.int .i64)))))) (.row 2 (.int .i64))))),.val ((.row 2 (.int .i64))),.val ((.row 2 (.int .i64)))],[⟨(.row 2 (.int .i64)),true⟩,⟨(.row 2 (.int .i64)),true⟩],fun x=>B9 x.1=true∧x.2.1.length=B7 x.1.2.2.1∧D9 x.2.1=true∧(x.2.2.1.length:Int)=x.1.1∧D9 x.2.2.1=true,fun x=>S8 x.1 x.2.1 x.2.2.1⟩
theorem B2V:C9 Tryz.prog 98 x6:=by
  refine A4 Tryz.func98 rfl ?_
  have hres:Tryz.f98.results.toList=[.tmp 6,.tmp 7]:=rfl
  rintro⟨⟨(pi:Int),(ts:List (List Int)),(ns:List A6),(os:List Int)⟩,(cs:List Int),(ff:List Int),_⟩ hc hL
  simp only[x6,go_sem] at hL
  simp only[x6,St.init,St.initG,Tryz.ntmps98,go_sem] 
  obtain⟨hP,hcl,hcs,hfl,hff⟩:=(show B9 (pi,ts,ns,os)=true∧cs.length=B7 ns∧D9 cs=true∧(ff.length:Int)=pi∧D9 ff=true from hc)
  have hF:=(B8 hP).1
  have hst:=B9J (B9e (q:=(pi,ts,ns,os)) hP hcl hcs hfl hff)
  have hst:A7z (pi,ts,ns,os) (O6 ns cs) ff=(J4 (pi,ts,ns,os) (E8 (pi,ts,ns,os) (O6 ns cs) ff),S6 (pi,ts,ns,os) (O6 ns cs) ff (E8 (pi,ts,ns,os) (O6 ns cs) ff),0):=hst
  have hnl:(S6 (pi,ts,ns,os) (O6 ns cs) ff (E8 (pi,ts,ns,os) (O6 ns cs) ff)).flatten.length≤1000000:=by have h:=(x4 hF hcl hcs hff).1;have h2:=A0M hF;rw[show (S6 (pi,ts,ns,os) (O6 ns cs) ff (E8 (pi,ts,ns,os) (O6 ns cs) ff)).flatten.length=(S8 (pi,ts,ns,os) cs ff).1.length from rfl,h];omega
  have hfs:C0 (pi,ts,ns,os)=true∧cs.length=B7 ns:=⟨hF,hcl⟩
  refine oS fun _ hK1=>?_;refine oW x8 ?_;simp only[go_sem];refine hK1 _ ?_;refine oS fun _ hK2=>?_;refine oW x8 ?_;simp (maxSteps:=2000000)only[List.nodup_cons,List.nodup_nil,List.not_mem_nil,not_false_eq_true,go_sem];repeat(with_reducible first|refine oA ?_|refine And.intro (by first|exact hfs) ?_)
  refine hK2 _ ?_;refine oS fun _ hK3=>?_
  refine oR x8
    [[],[0],[0,1],[],[],[0,1,2,3,4],[0,1,2,3,4,5],[0,1,2,3,4,5,6],[0,1,2,3,4,5,6],[0,1,2,3,4,5,6],[],[0,1,2,3,4,5,6,7,10],[0,1,2,3,4,5,6,7,8,10,11],[0,1,2,3,4,5,6,7,8,9,10,11,12]]
    [[260],[260],[260],[260],[260],[260],[260],[260],[260],[260],[30,436,437,438,439,440,441,442,443,444,445,446,447,448,449,450,451],[],[],[]]
    [[],[],[],[],[],[30,436,437,438,439,440,441,442,443,444,445,446,447,448,449,450,451],[],[],[],[],[260],[],[260],[]] (by kernel_rfl) (by kernel_rfl) (A9 (acc:=[]) ?_)
  simp (maxSteps:=2000000)only[List.nodup_cons,List.nodup_nil,List.not_mem_nil,not_false_eq_true,hst,go_sem];repeat(with_reducible refine oD ?_)
  refine hK3 _ ?_;refine oS fun _ hK4=>?_;refine oW x8 ?_;simp only[go_sem];repeat(with_reducible first|refine oA ?_|refine And.intro (by first|exact hnl) ?_)
  refine hK4 _ ?_;refine A0 ?_;simp only[hres,go_sem];first|exact oF|(refine⟨?_,oF⟩;first|exact⟨rfl,rfl⟩|rfl)
def A45:E4:=fun f=>if f=98 then some (.p x6) else B0C f
theorem C3:B4 Tryz.prog A45:=E3 B2V (B0 Tryz.func98 rfl (by decide)) x8
attribute [go_sem] A45 x6
def s9:Con:=⟨[.ptr (.prod (.int .i64) (.prod (.row 26 (.row 2 (.int .i64))) (.prod (.row 95 (.prod (.int .i64) (.prod (.int .i64) (.prod (.int .i64) (.row 2 (.int .i64)))))) (.row 2 (.int .i64)))))],[⟨(.prod (.int .i64) (.prod (.row 26 (.row 2 (.int .i64))) (.prod (.row 26 (.row 2 (.int .i64))) (.prod (.row 26 (.row 2 (.int .i64))) (.row 26 (.row 2 (.int .i64))))))),true⟩],fun x=>B9 x.1=true,fun x=>F6 x.1⟩
theorem B3L:C9 Tryz.prog 50 s9:=by
  refine A4 Tryz.func50 rfl ?_
  have hres:Tryz.f50.results.toList=[.cell 2 54]:=rfl
  rintro⟨⟨(pi:Int),(ts:List (List Int)),(ns:List A6),(os:List Int)⟩,_⟩ hc hL
  simp only[s9,go_sem] at hL
  obtain⟨⟨lts,lts2⟩,⟨lns,lns2⟩,los⟩:=hL
  simp only[s9,St.init,St.initG,Tryz.ntmps50,go_sem] 
  have hP:B9 (pi,ts,ns,os)=true:=hc
  have hF:=(B8 hP).1
  have ho4:os.length≤4:=(A8 hF).2.1
  have hpi:0≤pi∧pi≤4:=⟨(A8 hF).2.2.2.1,(A8 hF).2.2.2.2.1⟩
  have hpn:(((Int.toNat pi):Nat):Int)=pi:=Int.toNat_of_nonneg hpi.1
  have hc384:B7 ns≤384:=A0M (p:=(pi,ts,ns,os)) hF
  have hcr:J3 (B7 ns:Int) 0 1099511627776=true:=J8 (by omega) (by omega)
  have hpr:J3 pi 0 1099511627776=true:=J8 (by omega) (by omega)
  have hcr6:J3 (B7 ns:Int) 0 1000000=true:=J8 (by omega) (by omega)
  have hwt:IntKind.i64.wrap ((B7 ns:Int)+pi)=(B7 ns:Int)+pi:=F3 (by omega)
  refine oS fun _ hK1=>?_;refine oW C3 ?_;simp only[go_sem];repeat(with_reducible first|refine oA ?_|refine And.intro (by first|exact hF|exact hcr|exact hpr|omega) ?_)
  refine hK1 _ ?_;refine oS fun _ hK2=>?_;refine oW C3 ?_;simp only[go_sem];repeat(with_reducible first|refine oA ?_|refine And.intro (by first|exact hF|exact hcr|exact hpr|omega) ?_)
  refine hK2 _ ?_;refine oS fun _ hK3=>?_;refine oW C3 ?_;simp (maxSteps:=2000000)only[go_sem];repeat(with_reducible first|refine oA ?_|refine And.intro (by first|exact hF|exact hcr|exact hpr|omega) ?_)
  refine hK3 _ ?_;refine oS fun _ hK4=>?_;refine oW C3 ?_;simp (maxSteps:=2000000)only[go_sem];repeat(with_reducible first|refine oA ?_|refine And.intro (by first|exact hF|exact hcr|exact hpr|omega) ?_)
  refine hK4 _ ?_;refine oS fun _ hK5=>?_;refine oS fun _ hK6=>?_;refine oW C3 ?_;simp only[go_sem];repeat(with_reducible first|refine oA ?_|refine And.intro (by first|exact hF|exact hcr|exact hpr|omega) ?_)
  refine hK6 _ ?_;refine A1 ?_;refine H8 (P9 _ 180 1 9001 26 ((.row 2 (.int .i64))) (by decide)) ?_;simp (maxSteps:=2000000)only[go_sem];refine H8 (P9 _ 180 2 9002 26 ((.row 2 (.int .i64))) (by decide)) ?_;simp (maxSteps:=2000000)only[go_sem];refine A7 (ι:={ k:Nat // k≤B7 ns }) (fun k=>⟨(.c (.pt [] ((.prod (.int .i64) (.prod (.row 26 (.row 2 (.int .i64))) (.prod (.row 95 (.prod (.int .i64) (.prod (.int .i64) (.prod (.int .i64) (.row 2 (.int .i64)))))) (.row 2 (.int .i64)))))) (pi,ts,ns,os) 0)::zz::.c (.po 132 0)::.c (.sc (.int .i64 (B7 ns)))::.c (.sc (.int .i64 (os.length)))::.c (.po 180 0)::.c (.sc (.int .i64 (k.1)))::zz::zz::zz::zz::zz::zz::zz::zz::zz::zz::zz::zz::zz::zz::zz::zz::zz::zz::zz::zz::zz::zz::zz::zz::zz::zz::zz::zz::zz::zz::zz::zz::zz::zz::zz::zz::zz::zz::zz::zz::zz::zz::zz::zz::zz::zz::zz::zz::zz::zz::zz::zz::zz::zz::zz::zz::zz::zz::zz::zz::zz::zz::zz::zz::zz::zz::zz::zz::zz::zz::zz::zz::zz::zz::zz::zz::zz::zz::zz::zz::zz::zz::zz::zz::zz::zz::zz::zz::zz::zz::zz::zz::zz::zz::zz::zz::zz::zz::zz::zz::zz::zz::zz::zz::zz::zz::zz::zz::zz::zz::zz::zz::zz::zz::zz::zz::zz::zz::zz::zz::zz::zz::zz::zz::zz::zz::zz::zz::zz::zz::zz::zz::zz::zz::zz::zz::zz::zz::zz::zz::zz::zz::zz::zz::zz::zz::zz::zz::zz::zz::zz::zz::zz::zz::zz::zz::zz::[]),[(132,.box [.sc (.int .i64 (0)),.sc (.slice none 0 0),.sc (.slice none 0 0),.sc (.slice none 0 0),.sc (.slice none 0 0)]),(180,.box [.sc (.int .i64 (pi)),.ow 9001,.ow 9002,.sc (.slice none 0 0),.sc (.slice none 0 0)]),(9001,.tree 26 (.row 2 (.int .i64)) (List.replicate k.1 (List.replicate (B7 ns) 0)) none),(9002,.tree 26 (.row 2 (.int .i64)) (List.replicate k.1 (List.replicate (Int.toNat pi) 0)) none)]⟩) (fun k=>B7 ns - k.1) ⟨0,by simp⟩ ?_ ?_
  ·
   refine oK ?_;simp (maxSteps:=2000000)only[go_sem];all_goals(first|rfl|((repeat' refine And.intro ?_ ?_)<;>first|rfl|simp))
  rintro⟨k,hk⟩ K7 hL7
  refine oS fun _ hK8=>?_;refine oS fun _ hK9=>?_;refine oW C3 ?_;simp only[go_sem];repeat(with_reducible first|refine oA ?_|refine And.intro (by first|exact hF|exact hcr|exact hpr|omega) ?_)
  refine hK9 _ ?_;refine oC rfl ?_ ?_
  ·
   intro c0;refine A2 ?_;simp only[go_sem];refine hK8 _ ?_;refine oS fun _ hK10=>?_;refine A1 ?_;refine oS fun _ hK11=>?_
   refine oR C3
     [[],[0],[],[2],[2,3],[0,1,2,3,4],[0,1,2,3,4,5],[0,1,2,3,4,5,6]]
     [[628,629,630,631,632,633,634,635,636,637,638,639,640,641,642,643,644],[628,629,630,631,632,633,634,635,636,637,638,639,640,641,642,643,644],[],[],[],[],[],[]]
     [[],[],[],[628,629,630,631,632,633,634,635,636,637,638,639,640,641,642,643],[628,629,630,631,632,633,634,635,636,637,638,639,640,641,642,643,644],[],[],[]] (by kernel_rfl) (by kernel_rfl) (A9 (acc:=[]) ?_)
   simp (maxSteps:=2000000)only[List.nodup_cons,List.nodup_nil,List.not_mem_nil,not_false_eq_true,List.length_replicate,Int.toNat_natCast,go_sem];repeat(with_reducible first|refine oD ?_|refine And.intro (by first|exact hF|exact hcr|exact hpr|omega) ?_)
   refine hK11 _ ?_
   refine oR C3
     [[],[0],[],[2],[2,3],[2,3,4],[2,3,4,5],[2,3,4,5,6],[0,1,2,3,4,5,6,7],[0,1,2,3,4,5,6,7,8],[0,1,2,3,4,5,6,7,8,9]]
     [[788,789,790,791,792,793,794,795,796,797,798,799,800,801,802,803,804],[788,789,790,791,792,793,794,795,796,797,798,799,800,801,802,803,804],[],[],[],[],[],[],[],[],[]]
     [[],[],[],[],[],[],[788,789,790,791,792,793,794,795,796,797,798,799,800,801,802,803],[788,789,790,791,792,793,794,795,796,797,798,799,800,801,802,803,804],[],[],[]] (by kernel_rfl) (by kernel_rfl) (A9 (acc:=[]) ?_)
   simp (maxSteps:=2000000)only[List.nodup_cons,List.nodup_nil,List.not_mem_nil,not_false_eq_true,List.length_replicate,Int.toNat_natCast,go_sem];repeat(with_reducible first|refine oD ?_|refine And.intro (by first|exact hF|exact hcr|exact hpr|omega) ?_)
   refine hK10 _ ?_;refine oW C3 ?_;simp only[go_sem];repeat(with_reducible first|refine oA ?_|refine And.intro (by first|exact hF|exact hcr|exact hpr|omega) ?_)
   refine hL7 ⟨k+1,by omega⟩ _ (oK ?_) ?_
   ·
    simp (maxSteps:=2000000)only[go_sem];all_goals((repeat' refine And.intro ?_ ?_)<;>first|rfl|exact wk (by omega)|exact wkj (by omega)|(congr 1;exact A65 _ _)|exact A65 _ _|(congr 1;done))
   ·
    first|(simp only[];omega)|omega|(simp;omega)
  intro c0;have hke:k=B7 ns:=by omega
  refine B6 ?_;simp only[go_sem];refine hK5 _ ?_;refine oS fun _ hK12=>?_;refine oS fun _ hK13=>?_;refine oW C3 ?_;simp only[go_sem];repeat(with_reducible first|refine oA ?_|refine And.intro (by first|exact hF|exact hcr|exact hpr|omega) ?_)
  refine hK13 _ ?_;refine A1 ?_;refine H8 (P9 _ 180 3 9003 26 ((.row 2 (.int .i64))) (by decide)) ?_;simp (maxSteps:=2000000)only[go_sem];refine H8 (P9 _ 180 4 9004 26 ((.row 2 (.int .i64))) (by decide)) ?_;simp (maxSteps:=2000000)only[go_sem];refine A7 (ι:={ k:Nat // k≤os.length }) (fun k=>⟨(.c (.pt [] ((.prod (.int .i64) (.prod (.row 26 (.row 2 (.int .i64))) (.prod (.row 95 (.prod (.int .i64) (.prod (.int .i64) (.prod (.int .i64) (.row 2 (.int .i64)))))) (.row 2 (.int .i64)))))) (pi,ts,ns,os) 0)::zz::.c (.po 132 0)::.c (.sc (.int .i64 (B7 ns)))::.c (.sc (.int .i64 (os.length)))::.c (.po 180 0)::zz::.c (.sc (.int .i64 (k.1)))::zz::zz::zz::zz::zz::zz::zz::zz::zz::zz::zz::zz::zz::zz::zz::zz::zz::zz::zz::zz::zz::zz::zz::zz::zz::zz::zz::zz::zz::zz::zz::zz::zz::zz::zz::zz::zz::zz::zz::zz::zz::zz::zz::zz::zz::zz::zz::zz::zz::zz::zz::zz::zz::zz::zz::zz::zz::zz::zz::zz::zz::zz::zz::zz::zz::zz::zz::zz::zz::zz::zz::zz::zz::zz::zz::zz::zz::zz::zz::zz::zz::zz::zz::zz::zz::zz::zz::zz::zz::zz::zz::zz::zz::zz::zz::zz::zz::zz::zz::zz::zz::zz::zz::zz::zz::zz::zz::zz::zz::zz::zz::zz::zz::zz::zz::zz::zz::zz::zz::zz::zz::zz::zz::zz::zz::zz::zz::zz::zz::zz::zz::zz::zz::zz::zz::zz::zz::zz::zz::zz::zz::zz::zz::zz::zz::zz::zz::zz::zz::zz::zz::zz::zz::zz::zz::zz::[]),[(132,.box [.sc (.int .i64 (0)),.sc (.slice none 0 0),.sc (.slice none 0 0),.sc (.slice none 0 0),.sc (.slice none 0 0)]),(180,.box [.sc (.int .i64 (pi)),.ow 9001,.ow 9002,.ow 9003,.ow 9004]),(9001,.tree 26 (.row 2 (.int .i64)) (List.replicate (B7 ns) (List.replicate (B7 ns) 0)) none),(9002,.tree 26 (.row 2 (.int .i64)) (List.replicate (B7 ns) (List.replicate (Int.toNat pi) 0)) none),(9003,.tree 26 (.row 2 (.int .i64)) (List.replicate k.1 (List.replicate (B7 ns) 0)) none),(9004,.tree 26 (.row 2 (.int .i64)) (List.replicate k.1 (List.replicate (Int.toNat pi) 0)) none)]⟩) (fun k=>os.length - k.1) ⟨0,by simp⟩ ?_ ?_
  ·
   refine oK ?_;simp (maxSteps:=2000000)only[go_sem];all_goals((repeat' refine And.intro ?_ ?_)<;>first|rfl|(rw[hke];done)|(congr 1;rw[hke];done)|(congr 1;done))
  rintro⟨k1,hk1⟩ K14 hL14
  refine oS fun _ hK15=>?_;refine oS fun _ hK16=>?_;refine oW C3 ?_;simp only[go_sem];repeat(with_reducible first|refine oA ?_|refine And.intro (by first|exact hF|exact hcr|exact hpr|omega) ?_)
  refine hK16 _ ?_;refine oC rfl ?_ ?_
  ·
   intro c1;refine A2 ?_;simp only[go_sem];refine hK15 _ ?_;refine oS fun _ hK17=>?_;refine A1 ?_;refine oS fun _ hK18=>?_
   refine oR C3
     [[],[0],[],[2],[2,3],[0,1,2,3,4],[0,1,2,3,4,5],[0,1,2,3,4,5,6]]
     [[980,981,982,983,984,985,986,987,988,989,990,991,992,993,994,995,996],[980,981,982,983,984,985,986,987,988,989,990,991,992,993,994,995,996],[],[],[],[],[],[]]
     [[],[],[],[980,981,982,983,984,985,986,987,988,989,990,991,992,993,994,995],[980,981,982,983,984,985,986,987,988,989,990,991,992,993,994,995,996],[],[],[]] (by kernel_rfl) (by kernel_rfl) (A9 (acc:=[]) ?_)
   simp (maxSteps:=2000000)only[List.nodup_cons,List.nodup_nil,List.not_mem_nil,not_false_eq_true,List.length_replicate,Int.toNat_natCast,go_sem];repeat(with_reducible first|refine oD ?_|refine And.intro (by first|exact hF|exact hcr|exact hpr|omega) ?_)
   refine hK18 _ ?_
   refine oR C3
     [[],[0],[],[2],[2,3],[2,3,4],[2,3,4,5],[2,3,4,5,6],[0,1,2,3,4,5,6,7],[0,1,2,3,4,5,6,7,8],[0,1,2,3,4,5,6,7,8,9]]
     [[1140,1141,1142,1143,1144,1145,1146,1147,1148,1149,1150,1151,1152,1153,1154,1155,1156],[1140,1141,1142,1143,1144,1145,1146,1147,1148,1149,1150,1151,1152,1153,1154,1155,1156],[],[],[],[],[],[],[],[],[]]
     [[],[],[],[],[],[],[1140,1141,1142,1143,1144,1145,1146,1147,1148,1149,1150,1151,1152,1153,1154,1155],[1140,1141,1142,1143,1144,1145,1146,1147,1148,1149,1150,1151,1152,1153,1154,1155,1156],[],[],[]] (by kernel_rfl) (by kernel_rfl) (A9 (acc:=[]) ?_)
   simp (maxSteps:=2000000)only[List.nodup_cons,List.nodup_nil,List.not_mem_nil,not_false_eq_true,List.length_replicate,Int.toNat_natCast,go_sem];repeat(with_reducible first|refine oD ?_|refine And.intro (by first|exact hF|exact hcr|exact hpr|omega) ?_)
   refine hK17 _ ?_;refine oW C3 ?_;simp only[go_sem];repeat(with_reducible first|refine oA ?_|refine And.intro (by first|exact hF|exact hcr|exact hpr|omega) ?_)
   refine hL14 ⟨k1+1,by omega⟩ _ (oK ?_) ?_
   ·
    simp (maxSteps:=2000000)only[go_sem];all_goals((repeat' refine And.intro ?_ ?_)<;>first|rfl|exact wk (by omega)|exact wkj (by omega)|(congr 1;exact A65 _ _)|exact A65 _ _|(congr 1;done))
   ·
    first|(simp only[];omega)|omega|(simp;omega)
  intro c1;have hke1:k1=os.length:=by omega
  refine B6 ?_;simp only[go_sem];refine hK12 _ ?_;refine oS fun _ hK19=>?_;refine oS fun _ hK20=>?_;refine oW C3 ?_;simp only[go_sem];repeat(with_reducible first|refine oA ?_|refine And.intro (by first|exact hF|exact hcr|exact hpr|omega) ?_)
  refine hK20 _ ?_;refine A1 ?_;refine A7 (ι:={ j:Nat // j≤B7 ns+(Int.toNat pi) }) (fun k=>⟨(.c (.pt [] ((.prod (.int .i64) (.prod (.row 26 (.row 2 (.int .i64))) (.prod (.row 95 (.prod (.int .i64) (.prod (.int .i64) (.prod (.int .i64) (.row 2 (.int .i64)))))) (.row 2 (.int .i64)))))) (pi,ts,ns,os) 0)::zz::.c (.po 132 0)::.c (.sc (.int .i64 (B7 ns)))::.c (.sc (.int .i64 (os.length)))::.c (.po 180 0)::zz::zz::.c (.sc (.int .i64 (k.1)))::zz::zz::zz::zz::zz::zz::zz::zz::zz::zz::zz::zz::zz::zz::zz::zz::zz::zz::zz::zz::zz::zz::zz::zz::zz::zz::zz::zz::zz::zz::zz::zz::zz::zz::zz::zz::zz::zz::zz::zz::zz::zz::zz::zz::zz::zz::zz::zz::zz::zz::zz::zz::zz::zz::zz::zz::zz::zz::zz::zz::zz::zz::zz::zz::zz::zz::zz::zz::zz::zz::zz::zz::zz::zz::zz::zz::zz::zz::zz::zz::zz::zz::zz::zz::zz::zz::zz::zz::zz::zz::zz::zz::zz::zz::zz::zz::zz::zz::zz::zz::zz::zz::zz::zz::zz::zz::zz::zz::zz::zz::zz::zz::zz::zz::zz::zz::zz::zz::zz::zz::zz::zz::zz::zz::zz::zz::zz::zz::zz::zz::zz::zz::zz::zz::zz::zz::zz::zz::zz::zz::zz::zz::zz::zz::zz::zz::zz::zz::zz::zz::zz::zz::zz::zz::zz::[]),[(132,.box [.sc (.int .i64 (0)),.sc (.slice none 0 0),.sc (.slice none 0 0),.sc (.slice none 0 0),.sc (.slice none 0 0)]),(180,.box [.sc (.int .i64 (pi)),.ow 9001,.ow 9002,.ow 9003,.ow 9004]),(9001,.tree 26 (.row 2 (.int .i64)) (m1M (pi,ts,ns,os) k.1 0) none),(9002,.tree 26 (.row 2 (.int .i64)) (m2M (pi,ts,ns,os) k.1 0) none),(9003,.tree 26 (.row 2 (.int .i64)) (m3M (pi,ts,ns,os) k.1 0) none),(9004,.tree 26 (.row 2 (.int .i64)) (m4M (pi,ts,ns,os) k.1 0) none)]⟩) (fun k=>B7 ns+(Int.toNat pi) - k.1) ⟨0,by simp⟩ ?_ ?_
  ·
   refine oK ?_;simp (maxSteps:=2000000)only[go_sem];all_goals((repeat' refine And.intro ?_ ?_)<;>first|rfl|exact C6O (q:=(pi,ts,ns,os))|exact C6Q (q:=(pi,ts,ns,os))|(rw[hke1];exact C6g (q:=(pi,ts,ns,os)))|(rw[hke1];exact C6X (q:=(pi,ts,ns,os)))|(congr 1;exact C6O (q:=(pi,ts,ns,os)))|(congr 1;exact C6Q (q:=(pi,ts,ns,os)))|(congr 1;rw[hke1];exact C6g (q:=(pi,ts,ns,os)))|(congr 1;rw[hke1];exact C6X (q:=(pi,ts,ns,os)))|(congr 1;done))
  rintro⟨j,hj⟩ K21 hL21
  refine oS fun _ hK22=>?_;refine oS fun _ hK23=>?_;refine oW C3 ?_;simp (maxSteps:=2000000)only[hwt,go_sem];repeat(with_reducible first|refine oA ?_|refine And.intro (by first|exact hF|exact hcr|exact hpr|omega) ?_)
  refine hK23 _ ?_;refine oC rfl ?_ ?_
  ·
   intro c2;have hjl:j < B7 ns+(Int.toNat pi):=by omega
   rcases hcq0:B4w (pi,ts,ns,os) j with⟨v1,v2⟩
   have hcq:S8 (pi,ts,ns,os) (L4 (B7 ns) j) (L4 (Int.toNat pi) (Int.toNat (A4w (j:Int) (B7 ns:Int) pi)))=(v1,v2):=hcq0
   have hbk:=C3r (a:=(j:Int)) (b:=(B7 ns:Int)) hpi.1
   have hj0:(0:Int)≤(j:Int):=by omega
   have hjr:J3 (j:Int) 0 1000000=true:=J8 (by omega) (by omega)
   have hcc:B9 (pi,ts,ns,os)=true∧(L4 (B7 ns) j).length=B7 ns∧D9 (L4 (B7 ns) j)=true∧((L4 (Int.toNat pi) (Int.toNat (A4w (j:Int) (B7 ns:Int) pi))).length:Int)=pi∧D9 (L4 (Int.toNat pi) (Int.toNat (A4w (j:Int) (B7 ns:Int) pi)))=true:=⟨hP,(M4 _ _).1,(M4 _ _).2,by rw[(M4 _ _).1];exact hpn,(M4 _ _).2⟩
   have hvl:=C33 hF j
   rw[hcq0] at hvl;have hv1:v1.length=B7 ns:=hvl.1
   have hv2:v2.length=os.length:=hvl.2
   have hwj:IntKind.i64.wrap ((j:Int) - (B7 ns:Int))=(j:Int) - (B7 ns:Int):=F3 (by omega)
   refine A2 ?_;simp only[go_sem];refine hK22 _ ?_;refine oS fun _ hK24=>?_;refine A1 ?_;refine oS fun _ hK25=>?_
   refine oR C3
     [[],[],[],[1,2],[],[4],[4,5],[4,5,6],[],[],[],[10],[10,11],[10,11,12],[1,2,3,8,9,10,11,12,13],[1,2,3,4,5,6,7,8,9,10,11,12,13,14],[0,1,2,3,4,5,6,7,8,9,10,11,12,13,14,15],[0,1,2,3,4,5,6,7,8,9,10,11,12,13,14,15,16],[0,1,2,3,4,5,6,7,8,9,10,11,12,13,14,15,16,17],[0,1,2,3,4,5,6,7,8,9,10,11,12,13,14,15,16,17],[0,1,2,3,4,5,6,7,8,9,10,11,12,13,14,15,16,17,18],[0,1,2,3,4,5,6,7,8,9,10,11,12,13,14,15,16,17,18,19,20]]
     [[1428,1429,1430,1431,1432,1433,1434,1435,1436,1437,1438,1439,1440,1441,1442,1443,1620,1621,1622,1623,1624,1625,1626,1627,1628,1629,1630,1631,1632,1633,1634,1635],[],[],[],[1428,1429,1430,1431,1432,1433,1434,1435,1436,1437,1438,1439,1440,1441,1442,1443],[1428,1429,1430,1431,1432,1433,1434,1435,1436,1437,1438,1439,1440,1441,1442,1443],[1428,1429,1430,1431,1432,1433,1434,1435,1436,1437,1438,1439,1440,1441,1442,1443],[1428,1429,1430,1431,1432,1433,1434,1435,1436,1437,1438,1439,1440,1441,1442,1443],[1428,1429,1430,1431,1432,1433,1434,1435,1436,1437,1438,1439,1440,1441,1442,1443],[1428,1429,1430,1431,1432,1433,1434,1435,1436,1437,1438,1439,1440,1441,1442,1443],[1428,1429,1430,1431,1432,1433,1434,1435,1436,1437,1438,1439,1440,1441,1442,1443],[1428,1429,1430,1431,1432,1433,1434,1435,1436,1437,1438,1439,1440,1441,1442,1443],[1428,1429,1430,1431,1432,1433,1434,1435,1436,1437,1438,1439,1440,1441,1442,1443],[1428,1429,1430,1431,1432,1433,1434,1435,1436,1437,1438,1439,1440,1441,1442,1443],[],[],[],[],[],[],[],[]]
     [[],[],[],[1428,1429,1430,1431,1432,1433,1434,1435,1436,1437,1438,1439,1440,1441,1442,1443],[],[],[],[],[],[],[],[],[],[],[],[1620,1621,1622,1623,1624,1625,1626,1627,1628,1629,1630,1631,1632,1633,1634,1635],[],[],[],[],[],[]] (by kernel_rfl) (by kernel_rfl) (A9 (acc:=[]) ?_)
   simp (maxSteps:=2000000)only[Int.toNat_natCast,hcq,go_sem];repeat(with_reducible first|refine oD ?_|refine And.intro (by first|exact⟨hcr,hj0⟩|exact⟨hjr,hcr6⟩|exact⟨hpr,hbk⟩|exact hcc) ?_)
   refine hK25 _ ?_;refine oS fun _ hK26=>?_;refine oS fun _ hK27=>?_;refine oW C3 ?_;simp only[go_sem];repeat(with_reducible first|refine oA ?_|refine And.intro (by first|exact hF|exact hcr|exact hpr|omega) ?_)
   refine hK27 _ ?_;refine A1 ?_;refine A7 (ι:={ i:Nat // i≤B7 ns }) (fun k'=>⟨(.c (.pt [] ((.prod (.int .i64) (.prod (.row 26 (.row 2 (.int .i64))) (.prod (.row 95 (.prod (.int .i64) (.prod (.int .i64) (.prod (.int .i64) (.row 2 (.int .i64)))))) (.row 2 (.int .i64)))))) (pi,ts,ns,os) 0)::zz::.c (.po 132 0)::.c (.sc (.int .i64 (B7 ns)))::.c (.sc (.int .i64 (os.length)))::.c (.po 180 0)::zz::zz::.c (.sc (.int .i64 (j)))::.c (.ow 9005)::.c (.ow 9006)::.c (.sc (.int .i64 (k'.1)))::zz::zz::zz::zz::zz::zz::zz::zz::zz::zz::zz::zz::zz::zz::zz::zz::zz::zz::zz::zz::zz::zz::zz::zz::zz::zz::zz::zz::zz::zz::zz::zz::zz::zz::zz::zz::zz::zz::zz::zz::zz::zz::zz::zz::zz::zz::zz::zz::zz::zz::zz::zz::zz::zz::zz::zz::zz::zz::zz::zz::zz::zz::zz::zz::zz::zz::zz::zz::zz::zz::zz::zz::zz::zz::zz::zz::zz::zz::zz::zz::zz::zz::zz::zz::zz::zz::zz::zz::zz::zz::zz::zz::zz::zz::zz::zz::zz::zz::zz::zz::zz::zz::zz::zz::zz::zz::zz::zz::zz::zz::zz::zz::zz::zz::zz::zz::zz::zz::zz::zz::zz::zz::zz::zz::zz::zz::zz::zz::zz::zz::zz::zz::zz::zz::zz::zz::zz::zz::zz::zz::zz::zz::zz::zz::zz::zz::zz::zz::zz::zz::zz::zz::[]),[(132,.box [.sc (.int .i64 (0)),.sc (.slice none 0 0),.sc (.slice none 0 0),.sc (.slice none 0 0),.sc (.slice none 0 0)]),(180,.box [.sc (.int .i64 (pi)),.ow 9001,.ow 9002,.ow 9003,.ow 9004]),(9001,.tree 26 (.row 2 (.int .i64)) (m1M (pi,ts,ns,os) j k'.1) none),(9002,.tree 26 (.row 2 (.int .i64)) (m2M (pi,ts,ns,os) j k'.1) none),(9003,.tree 26 (.row 2 (.int .i64)) (m3M (pi,ts,ns,os) j 0) none),(9004,.tree 26 (.row 2 (.int .i64)) (m4M (pi,ts,ns,os) j 0) none),(9005,.row 2 (.int .i64) (v1) []),(9006,.row 2 (.int .i64) (v2) [])]⟩) (fun k'=>B7 ns - k'.1) ⟨0,by simp⟩ ?_ ?_
   ·
    refine oK ?_;simp (maxSteps:=2000000)only[go_sem];all_goals(first|rfl|((repeat' refine And.intro ?_ ?_)<;>first|rfl|simp))
   rintro⟨i,hi⟩ K28 hL28
   refine oS fun _ hK29=>?_;refine oS fun _ hK30=>?_;refine oW C3 ?_;simp only[go_sem];repeat(with_reducible first|refine oA ?_|refine And.intro (by first|exact hF|exact hcr|exact hpr|omega) ?_)
   refine hK30 _ ?_;refine oC rfl ?_ ?_
   ·
    intro c3;have hr1:=C72 (q:=(pi,ts,ns,os)) (n:=j) (i:=i) (by show i < B7 ns;omega)
    have hr2:=C6y (q:=(pi,ts,ns,os)) (n:=j) (i:=i) (by show i < B7 ns;omega)
    have hM1:=C5m (pi,ts,ns,os) j i
    have hM2:=C4v (pi,ts,ns,os) j i
    refine A2 ?_;simp only[go_sem];refine hK29 _ ?_;refine oS fun _ hK31=>?_;refine A1 ?_;refine oS fun _ hK32=>?_;refine oW C3 ?_;simp only[go_sem];repeat(with_reducible first|refine oA ?_|refine And.intro (by first|exact hF|exact hcr|exact hpr|omega) ?_)
    refine hK32 _ ?_;refine oC rfl ?_ ?_
    ·
     intro c4;have hq:=B8Z (q:=(pi,ts,ns,os)) hpi.1 (j:=j) (by show j < B7 ns;omega)
     have hS1:=C6G (q:=(pi,ts,ns,os)) (v:=v1) (n:=j) (i:=i) (by show i < B7 ns;omega) (by show j < B7 ns;omega) (by rw[←hq,hcq0])
     have hS2:=C54 (q:=(pi,ts,ns,os)) (n:=j) (i:=i) (by show j < B7 ns;omega)
     refine oR C3
       [[],[0],[],[0,1,2],[0,1,2,3],[],[],[],[6,7],[6,7,8],[0,1,2,3,4,5,6,7,8,9],[0,1,2,3,4,5,6,7,8,9,10]]
       [[],[],[],[],[],[],[],[],[],[],[],[]]
       [[],[],[],[],[],[],[],[],[],[],[],[]] (by kernel_rfl) (by kernel_rfl) (A9 (acc:=[]) ?_)
     simp (maxSteps:=2000000)only[hM1,hr1,hv1,Int.toNat_natCast,go_sem];repeat(with_reducible first|refine oD ?_|refine And.intro (by first|exact hF|exact hcr|exact hpr|omega) ?_)
     refine hK31 _ ?_;refine oW C3 ?_;simp only[go_sem];repeat(with_reducible first|refine oA ?_|refine And.intro (by first|exact hF|exact hcr|exact hpr|omega) ?_)
     refine hL28 ⟨i+1,by omega⟩ _ (oK ?_) ?_
     ·
      simp (maxSteps:=2000000)only[go_sem];all_goals((repeat' refine And.intro ?_ ?_)<;>first|rfl|exact wk (by omega)|exact hS1|exact hS2|(congr 1;exact hS1)|(congr 1;exact hS2)|(congr 1;done))
     ·
      first|(simp only[];omega)|omega|(simp;omega)
    intro c4;have hq:=B5T (q:=(pi,ts,ns,os)) (j:=j) (by show B7 ns≤j;omega)
    have hS2:=C5U (q:=(pi,ts,ns,os)) (v:=v1) (n:=j) (i:=i) (by show i < B7 ns;omega) (by show B7 ns≤j;omega) hjl (by rw[←hq,hcq0])
    have hS1:=C5s (q:=(pi,ts,ns,os)) (n:=j) (i:=i) (by show ¬j < B7 ns;omega)
    have hjc:(j:Int) - (B7 ns:Int)=((j - B7 ns:Nat):Int):=by omega
    have hwk:IntKind.i64.wrap ((j - B7 ns:Nat):Int)=((j - B7 ns:Nat):Int):=F3 (by omega)
    refine oR C3
      [[],[0],[],[0,1,2],[0,1,2,3],[],[],[5,6],[],[],[8,9],[8,9,10],[0,1,2,3,4,5,6,7,8,9,10,11],[0,1,2,3,4,5,6,7,8,9,10,11,12]]
      [[],[],[],[],[],[],[],[],[],[],[],[],[],[]]
      [[],[],[],[],[],[],[],[],[],[],[],[],[],[]] (by kernel_rfl) (by kernel_rfl) (A9 (acc:=[]) ?_)
    simp (maxSteps:=2000000)only[hM2,hr2,hv1,hjc,hwk,Int.toNat_natCast,go_sem];repeat(with_reducible first|refine oD ?_|refine And.intro (by first|exact hF|exact hcr|exact hpr|omega) ?_)
    refine hK31 _ ?_;refine oW C3 ?_;simp only[go_sem];repeat(with_reducible first|refine oA ?_|refine And.intro (by first|exact hF|exact hcr|exact hpr|omega) ?_)
    refine hL28 ⟨i+1,by omega⟩ _ (oK ?_) ?_
    ·
     simp (maxSteps:=2000000)only[go_sem];all_goals((repeat' refine And.intro ?_ ?_)<;>first|rfl|exact wk (by omega)|exact hS1|exact hS2|(congr 1;exact hS1)|(congr 1;exact hS2)|(congr 1;done))
    ·
     first|(simp only[];omega)|omega|(simp;omega)
   intro c3;refine B6 ?_;simp only[go_sem];refine hK26 _ ?_;refine oS fun _ hK33=>?_;refine oW C3 ?_;simp only[go_sem];repeat(with_reducible first|refine oA ?_|refine And.intro (by first|exact hF|exact hcr|exact hpr|omega) ?_)
   refine hK33 _ ?_;refine A1 ?_;refine A7 (ι:={ i:Nat // i≤os.length }) (fun k'=>⟨(.c (.pt [] ((.prod (.int .i64) (.prod (.row 26 (.row 2 (.int .i64))) (.prod (.row 95 (.prod (.int .i64) (.prod (.int .i64) (.prod (.int .i64) (.row 2 (.int .i64)))))) (.row 2 (.int .i64)))))) (pi,ts,ns,os) 0)::zz::.c (.po 132 0)::.c (.sc (.int .i64 (B7 ns)))::.c (.sc (.int .i64 (os.length)))::.c (.po 180 0)::zz::zz::.c (.sc (.int .i64 (j)))::zz::.c (.ow 9006)::zz::.c (.sc (.int .i64 (k'.1)))::zz::zz::zz::zz::zz::zz::zz::zz::zz::zz::zz::zz::zz::zz::zz::zz::zz::zz::zz::zz::zz::zz::zz::zz::zz::zz::zz::zz::zz::zz::zz::zz::zz::zz::zz::zz::zz::zz::zz::zz::zz::zz::zz::zz::zz::zz::zz::zz::zz::zz::zz::zz::zz::zz::zz::zz::zz::zz::zz::zz::zz::zz::zz::zz::zz::zz::zz::zz::zz::zz::zz::zz::zz::zz::zz::zz::zz::zz::zz::zz::zz::zz::zz::zz::zz::zz::zz::zz::zz::zz::zz::zz::zz::zz::zz::zz::zz::zz::zz::zz::zz::zz::zz::zz::zz::zz::zz::zz::zz::zz::zz::zz::zz::zz::zz::zz::zz::zz::zz::zz::zz::zz::zz::zz::zz::zz::zz::zz::zz::zz::zz::zz::zz::zz::zz::zz::zz::zz::zz::zz::zz::zz::zz::zz::zz::zz::zz::zz::zz::zz::zz::[]),[(132,.box [.sc (.int .i64 (0)),.sc (.slice none 0 0),.sc (.slice none 0 0),.sc (.slice none 0 0),.sc (.slice none 0 0)]),(180,.box [.sc (.int .i64 (pi)),.ow 9001,.ow 9002,.ow 9003,.ow 9004]),(9001,.tree 26 (.row 2 (.int .i64)) (m1M (pi,ts,ns,os) j i) none),(9002,.tree 26 (.row 2 (.int .i64)) (m2M (pi,ts,ns,os) j i) none),(9003,.tree 26 (.row 2 (.int .i64)) (m3M (pi,ts,ns,os) j k'.1) none),(9004,.tree 26 (.row 2 (.int .i64)) (m4M (pi,ts,ns,os) j k'.1) none),(9006,.row 2 (.int .i64) (v2) [])]⟩) (fun k'=>os.length - k'.1) ⟨0,by simp⟩ ?_ ?_
   ·
    refine oK ?_;simp (maxSteps:=2000000)only[go_sem];all_goals(first|rfl|((repeat' refine And.intro ?_ ?_)<;>first|rfl|simp))
   rintro⟨i2,hi2⟩ K34 hL34
   refine oS fun _ hK35=>?_;refine oS fun _ hK36=>?_;refine oW C3 ?_;simp only[go_sem];repeat(with_reducible first|refine oA ?_|refine And.intro (by first|exact hF|exact hcr|exact hpr|omega) ?_)
   refine hK36 _ ?_;refine oC rfl ?_ ?_
   ·
    intro c5;have hr3:=C7z (q:=(pi,ts,ns,os)) (n:=j) (i:=i2) (by show i2 < os.length;omega)
    have hr4:=C7J (q:=(pi,ts,ns,os)) (n:=j) (i:=i2) (by show i2 < os.length;omega)
    have hM3:=C5F (pi,ts,ns,os) j i2
    have hM4:=C5X (pi,ts,ns,os) j i2
    refine A2 ?_;simp only[go_sem];refine hK35 _ ?_;refine oS fun _ hK37=>?_;refine A1 ?_;refine oS fun _ hK38=>?_;refine oW C3 ?_;simp only[go_sem];repeat(with_reducible first|refine oA ?_|refine And.intro (by first|exact hF|exact hcr|exact hpr|omega) ?_)
    refine hK38 _ ?_;refine oC rfl ?_ ?_
    ·
     intro c6;have hq:=B8Z (q:=(pi,ts,ns,os)) hpi.1 (j:=j) (by show j < B7 ns;omega)
     have hS3:=C4r (q:=(pi,ts,ns,os)) (v:=v2) (n:=j) (i:=i2) (by show i2 < os.length;omega) (by show j < B7 ns;omega) (by rw[←hq,hcq0])
     have hS4:=C5f (q:=(pi,ts,ns,os)) (n:=j) (i:=i2) (by show j < B7 ns;omega)
     refine oR C3
       [[],[0],[],[0,1,2],[0,1,2,3],[],[],[],[6,7],[6,7,8],[0,1,2,3,4,5,6,7,8,9],[0,1,2,3,4,5,6,7,8,9,10]]
       [[],[],[],[],[],[],[],[],[],[],[],[]]
       [[],[],[],[],[],[],[],[],[],[],[],[]] (by kernel_rfl) (by kernel_rfl) (A9 (acc:=[]) ?_)
     simp (maxSteps:=2000000)only[hM3,hr3,hv2,Int.toNat_natCast,go_sem];repeat(with_reducible first|refine oD ?_|refine And.intro (by first|exact hF|exact hcr|exact hpr|omega) ?_)
     refine hK37 _ ?_;refine oW C3 ?_;simp only[go_sem];repeat(with_reducible first|refine oA ?_|refine And.intro (by first|exact hF|exact hcr|exact hpr|omega) ?_)
     refine hL34 ⟨i2+1,by omega⟩ _ (oK ?_) ?_
     ·
      simp (maxSteps:=2000000)only[go_sem];all_goals((repeat' refine And.intro ?_ ?_)<;>first|rfl|exact wk (by omega)|exact hS3|exact hS4|(congr 1;exact hS3)|(congr 1;exact hS4)|(congr 1;done))
     ·
      first|(simp only[];omega)|omega|(simp;omega)
    intro c6;have hq:=B5T (q:=(pi,ts,ns,os)) (j:=j) (by show B7 ns≤j;omega)
    have hS4:=C4n (q:=(pi,ts,ns,os)) (v:=v2) (n:=j) (i:=i2) (by show i2 < os.length;omega) (by show B7 ns≤j;omega) hjl (by rw[←hq,hcq0])
    have hS3:=C6J (q:=(pi,ts,ns,os)) (n:=j) (i:=i2) (by show ¬j < B7 ns;omega)
    have hjc:(j:Int) - (B7 ns:Int)=((j - B7 ns:Nat):Int):=by omega
    have hwk:IntKind.i64.wrap ((j - B7 ns:Nat):Int)=((j - B7 ns:Nat):Int):=F3 (by omega)
    refine oR C3
      [[],[0],[],[0,1,2],[0,1,2,3],[],[],[5,6],[],[],[8,9],[8,9,10],[0,1,2,3,4,5,6,7,8,9,10,11],[0,1,2,3,4,5,6,7,8,9,10,11,12]]
      [[],[],[],[],[],[],[],[],[],[],[],[],[],[]]
      [[],[],[],[],[],[],[],[],[],[],[],[],[],[]] (by kernel_rfl) (by kernel_rfl) (A9 (acc:=[]) ?_)
    simp (maxSteps:=2000000)only[hM4,hr4,hv2,hjc,hwk,Int.toNat_natCast,go_sem];repeat(with_reducible first|refine oD ?_|refine And.intro (by first|exact hF|exact hcr|exact hpr|omega) ?_)
    refine hK37 _ ?_;refine oW C3 ?_;simp only[go_sem];repeat(with_reducible first|refine oA ?_|refine And.intro (by first|exact hF|exact hcr|exact hpr|omega) ?_)
    refine hL34 ⟨i2+1,by omega⟩ _ (oK ?_) ?_
    ·
     simp (maxSteps:=2000000)only[go_sem];all_goals((repeat' refine And.intro ?_ ?_)<;>first|rfl|exact wk (by omega)|exact hS3|exact hS4|(congr 1;exact hS3)|(congr 1;exact hS4)|(congr 1;done))
    ·
     first|(simp only[];omega)|omega|(simp;omega)
   intro c5;have hE1:=C6E (q:=(pi,ts,ns,os)) (n:=j) (i:=i) (by show B7 ns≤i;omega)
   have hE2:=C6D (q:=(pi,ts,ns,os)) (n:=j) (i:=i) (by show B7 ns≤i;omega)
   have hE3:=C5J (q:=(pi,ts,ns,os)) (n:=j) (i:=i2) (by show os.length≤i2;omega)
   have hE4:=C4M (q:=(pi,ts,ns,os)) (n:=j) (i:=i2) (by show os.length≤i2;omega)
   refine B6 ?_;simp only[go_sem];refine hK24 _ ?_;refine oW C3 ?_;simp only[go_sem];repeat(with_reducible first|refine oA ?_|refine And.intro (by first|exact hF|exact hcr|exact hpr|omega) ?_)
   refine hL21 ⟨j+1,by omega⟩ _ (oK ?_) ?_
   ·
    simp (maxSteps:=2000000)only[go_sem];all_goals((repeat' refine And.intro ?_ ?_)<;>first|rfl|exact wk (by omega)|exact hE1|exact hE2|exact hE3|exact hE4|(congr 1;exact hE1)|(congr 1;exact hE2)|(congr 1;exact hE3)|(congr 1;exact hE4)|(congr 1;done))
   ·
    first|(simp only[];omega)|omega|(simp;omega)
  intro c2;have hje:j=B7 ns+(Int.toNat pi):=by omega
  refine B6 ?_;simp only[go_sem];refine hK19 _ ?_;refine oS fun _ hK39=>?_;refine oW C3 ?_;simp only[go_sem];repeat(with_reducible first|refine oA ?_|refine And.intro (by first|exact hF|exact hcr|exact hpr|omega) ?_)
  refine hK39 _ ?_;refine A0 ?_;simp only[hres,go_sem];first|exact oF|(refine⟨?_,oF⟩;exact C4T (q:=(pi,ts,ns,os)) hje)
def A3D:E4:=fun f=>if f=50 then some (.p s9) else A45 f
theorem L2:B4 Tryz.prog A3D:=E3 B3L (B0 Tryz.func50 rfl (by decide)) C3
attribute [go_sem] A3D s9
def A1v:Con:=⟨[.ptr (.prod (.int .i64) (.prod (.row 26 (.row 2 (.int .i64))) (.prod (.row 95 (.prod (.int .i64) (.prod (.int .i64) (.prod (.int .i64) (.row 2 (.int .i64)))))) (.row 2 (.int .i64)))))],[⟨(.prod (.int .i64) (.prod (.row 26 (.row 2 (.int .i64))) (.prod (.row 26 (.row 2 (.int .i64))) (.prod (.row 26 (.row 2 (.int .i64))) (.row 26 (.row 2 (.int .i64))))))),true⟩,⟨.int .i64,true⟩],fun _=>True,fun x=>A7p x.1⟩
theorem B6g:C9 Tryz.prog 22 A1v:=by
  refine A4 Tryz.func22 rfl ?_
  have hres:Tryz.f22.results.toList=[.cell 2 54,.tmp 3]:=rfl
  rintro⟨⟨(pi:Int),(ts:List (List Int)),(ns:List A6),(os:List Int)⟩,_⟩ hc hL
  simp only[A1v,go_sem] at hL
  simp only[A1v,St.init,St.initG,Tryz.ntmps22,go_sem] 
  refine oS fun _ hK1=>?_;refine oW L2 ?_;simp only[go_sem];repeat(with_reducible first|refine oA ?_|refine And.intro (by first|exact hP|exact hTF|exact hT) ?_)
  refine hK1 _ ?_;refine oS fun _ hK2=>?_;refine oS fun _ hK3=>?_;refine oW L2 ?_;simp only[go_sem];repeat(with_reducible first|refine oA ?_|refine And.intro (by first|exact hP|exact hTF|exact hT) ?_)
  refine hK3 _ ?_;refine oC rfl ?_ ?_
  ·
   intro c0;refine oS fun _ hK4=>?_;refine oW L2 ?_;simp only[go_sem];repeat(with_reducible first|refine oA ?_|refine And.intro (by first|exact hP|exact hTF|exact hT) ?_)
   refine hK4 _ ?_;refine A0 ?_;simp only[hres,go_sem];first|exact oF|(refine⟨?_,oF⟩;first|(rw[C2S (by assumption)];exact⟨rfl,rfl⟩)|(rw[C2S (by assumption)];done))
  intro c0;have hP:B9 (pi,ts,ns,os)=true:=by assumption
  have hT:=T5 hP
  have hTF:=(B8 hT).1
  have hTl:=A9A (pi,ts,ns,os)
  refine A2 ?_;simp only[go_sem];refine hK2 _ ?_;refine oS fun _ hK5=>?_;refine oW L2 ?_;simp only[go_sem];repeat(with_reducible first|refine oA ?_|refine And.intro (by first|exact hP|exact hTF|exact hT) ?_)
  refine hK5 _ ?_;refine oS fun _ hK6=>?_;refine oS fun _ hK7=>?_;refine oW L2 ?_;simp only[go_sem];repeat(with_reducible first|refine oA ?_|refine And.intro (by first|exact hP|exact hTF|exact hT) ?_)
  refine hK7 _ ?_;refine oC rfl ?_ ?_
  ·
   intro c1;refine oS fun _ hK8=>?_;refine oW L2 ?_;simp only[go_sem];repeat(with_reducible first|refine oA ?_|refine And.intro (by first|exact hP|exact hTF|exact hT) ?_)
   refine hK8 _ ?_;refine A0 ?_;simp only[hres,go_sem];first|exact oF|(refine⟨?_,oF⟩;first|(rw[C3s hP (by rw[←hTl];assumption)];exact⟨rfl,rfl⟩)|(rw[C3s hP (by rw[←hTl];assumption)];done))
  intro c1;refine A2 ?_;simp only[go_sem];refine hK6 _ ?_;refine oS fun _ hK9=>?_;refine oS fun _ hK10=>?_;refine oW L2 ?_;simp only[go_sem];repeat(with_reducible first|refine oA ?_|refine And.intro (by first|exact hP|exact hTF|exact hT) ?_)
  refine hK10 _ ?_;refine oC rfl ?_ ?_
  ·
   intro c2;refine oS fun _ hK11=>?_;refine oW L2 ?_;simp only[go_sem];repeat(with_reducible first|refine oA ?_|refine And.intro (by first|exact hP|exact hTF|exact hT) ?_)
   refine hK11 _ ?_;refine A0 ?_;simp only[hres,go_sem];first|exact oF|(refine⟨?_,oF⟩;first|(rw[C3w hP (by rw[←hTl];assumption) (by omega)];exact⟨rfl,rfl⟩)|(rw[C3w hP (by rw[←hTl];assumption) (by omega)];done))
  intro c2;refine A2 ?_;simp only[go_sem];refine hK9 _ ?_;refine oS fun _ hK12=>?_;refine oW L2 ?_;simp only[go_sem];repeat(with_reducible first|refine oA ?_|refine And.intro (by first|exact hP|exact hTF|exact hT) ?_)
  refine hK12 _ ?_;refine A0 ?_;simp only[hres,go_sem];first|exact oF|(refine⟨?_,oF⟩;first|(rw[C28 hP (by rw[←hTl];assumption) (by omega)];exact⟨rfl,rfl⟩)|(rw[C28 hP (by rw[←hTl];assumption) (by omega)];done))
def A4l:E4:=fun f=>if f=22 then some (.p A1v) else A3D f
theorem Y6:B4 Tryz.prog A4l:=E3 B6g (B0 Tryz.func22 rfl (by decide)) L2
attribute [go_sem] A4l A1v
def B61:E4:=A4l
attribute [go_sem] B61
end Go.Proofs.YtgaogcnfijbahaaGreat
