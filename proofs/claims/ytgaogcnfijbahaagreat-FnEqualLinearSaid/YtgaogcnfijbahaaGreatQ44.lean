/-
  Texts of this claim, joined (part 44). No condition beyond those of the theorems.
-/
import Derived.Test.YtgaogcnfijbahaaGreatQ43
import Derived.Test.YtgaogcnfijbahaaGreatQ04
import Derived.Test.YtgaogcnfijbahaaGreatQ33
import Derived.Test.YtgaogcnfijbahaaGreatQ06
import Derived.Test.YtgaogcnfijbahaaGreatQ39
import Derived.Test.YtgaogcnfijbahaaGreatQ41
namespace Go.Proofs.YtgaogcnfijbahaaGreat
open Go.RowKit
set_option linter.unusedSimpArgs false
set_option linter.unusedVariables false
set_option maxRecDepth 100000
set_option maxHeartbeats 1000000
def B2q:E4:=fun f=>match A0u f with
 | some k=>some k
 | none=>B3j f
theorem A57:B4 Tryz.prog B2q:=N2 A6Z B6J
attribute [go_sem] B2q T0
def A1q:Con:=⟨[.val ((.prod (.int .i64) (.prod (.row 26 (.row 2 (.int .i64))) (.prod (.row 95 (.prod (.int .i64) (.prod (.int .i64) (.prod (.int .i64) (.row 2 (.int .i64)))))) (.row 2 (.int .i64))))))],[⟨.bool,true⟩],fun _=>True,fun x=>B9 x.1⟩
theorem B79:C9 Tryz.prog 37 A1q:=by
  refine A4 Tryz.func37 rfl ?_
  have hres:Tryz.f37.results.toList=[.tmp 2]:=rfl
  rintro⟨⟨(pi:Int),(ts:List (List Int)),(ns:List A6),(os:List Int)⟩,_⟩ hc hL
  simp only[A1q,go_sem] at hL
  obtain⟨⟨lts,lts2⟩,⟨lns,lns2⟩,los⟩:=hL
  simp only[A1q,St.init,St.initG,Tryz.ntmps37,go_sem] 
  refine oS fun _ hK1=>?_;refine oW A57 ?_;simp only[go_sem];repeat(with_reducible first|refine oA ?_|refine And.intro (by first|clear hK1;simp_all) ?_)
  refine hK1 _ ?_;refine oS fun _ hK2=>?_
  refine oR A57
    [[],[0],[0,1],[0,1,2],[0,1,2,3],[0,1,2,3,4],[0,1,2],[0,1,2,6],[0,1,2,6,7],[0,1,2,3,4,5,6,7,8],[0,1,2,3,4,5,6,7,8,9],[0,1,2,3,4,5,6,7,8,9,10]]
    [[],[],[],[],[],[],[212,213,214,215,216,217,218,219,220,221,222,223,224,225,226,227],[212,213,214,215,216,217,218,219,220,221,222,223,224,225,226,227],[212,213,214,215,216,217,218,219,220,221,222,223,224,225,226,227],[],[],[]]
    [[],[],[],[],[212,213,214,215,216,217,218,219,220,221,222,223,224,225,226,227],[],[],[],[],[],[],[]] (by kernel_rfl) (by kernel_rfl) (A9 (acc:=[]) ?_)
  simp (maxSteps:=2000000)only[go_sem];repeat' (with_reducible first|refine oD ?_|refine And.intro (by first|clear hK1 hK2;simp_all) ?_|refine oT (fun g1=>?_) (fun g1=>?_)|refine oE (fun g1=>?_) (fun g1=>?_))
  all_goals
   refine hK2 _ ?_;refine A0 ?_;simp only[hres,go_sem];first|exact oF|(refine⟨?_,oF⟩;clear hK1 hK2;simp_all [B9]<;>first|rfl|exact decide_eq_decide.2 (by omega))
def A0a:E4:=fun f=>if f=37 then some (.p A1q) else B2q f
theorem A2i:B4 Tryz.prog A0a:=E3 B79 (B0 Tryz.func37 rfl (by decide)) A57
attribute [go_sem] A0a A1q
def B4z:E4:=A0a
attribute [go_sem] B4z
set_option maxRecDepth 100000
set_option maxHeartbeats 1000000
def B3v:E4:=fun f=>match A0a f with
 | some k=>some k
 | none=>A1w f
theorem B6L:B4 Tryz.prog B3v:=N2 A2i A3B
attribute [go_sem] B3v T0
def B3I:E4:=fun f=>match B3v f with
 | some k=>some k
 | none=>Z3 f
theorem A5O:B4 Tryz.prog B3I:=N2 B6L A5
attribute [go_sem] B3I T0
def r8:GCon where
  ps:=[.val ((.prod (.int .i64) (.prod (.row 26 (.row 2 (.int .i64))) (.prod (.row 95 (.prod (.int .i64) (.prod (.int .i64) (.prod (.int .i64) (.row 2 (.int .i64)))))) (.row 2 (.int .i64)))))),.one ((.row 26 (.row 2 (.int .i64))))]
  os:=[]
  c:=fun x=>B9 x.1.1=true∧U3 x.1.1 x.1.2.1
  r:=fun x=>.c (.po 10 0)
  o:=fun x=>[(10,.box [.sc (.int .i64 (x.1.1.1)),.rd [] 26 ((.row 2 (.int .i64))) (x.1.1.2.1),.rd [] 95 ((.prod (.int .i64) (.prod (.int .i64) (.prod (.int .i64) (.row 2 (.int .i64)))))) (x.1.1.2.2.1),.rd [] 2 (.int .i64) (x.1.1.2.2.2),.ow 11,.ow 12,.ow 13]),(11,.row 2 (.int .i64) (C6 x.1.1.2.2.1) []),(12,.row 2 (.int .i64) (List.replicate x.1.1.2.2.1.length 0) []),(13,.tree 26 (.row 2 (.int .i64)) (x.1.2.1) none)]
  ok:=by
    rintro⟨⟨⟨(pi:Int),(ts:List (List Int)),(ns:List A6),(os:List Int)⟩,(cc:List (List Int)),_⟩,_⟩
    exact⟨rfl,rfl,by decide⟩
theorem B52:Z2 Tryz.prog 84 r8:=by
  refine E1 Tryz.func84 rfl ?_
  have hres:Tryz.f84.results.toList=[.tmp 4]:=rfl
  rintro⟨⟨⟨(pi:Int),(ts:List (List Int)),(ns:List A6),(os:List Int)⟩,(cc:List (List Int)),_⟩,_⟩ hc hL hO
  simp only[r8,go_sem] at hL
  simp only[r8,go_sem] at hO
  simp only[r8,St.init,St.initG,Tryz.ntmps84,go_sem] 
  obtain⟨hP,hs1,hs2⟩:=(show B9 (pi,ts,ns,os)=true∧U3 (pi,ts,ns,os) cc from hc)
  have hF:=(B8 hP).1
  have hn24:ns.length≤24:=(A8 hF).1
  have hs1:cc.length=ns.length:=hs1
  have hfc:B04 cc:=C4A hF ⟨hs1,hs2⟩
  refine oS fun _ hK1=>?_;refine oW A5O ?_;simp only[go_sem];repeat(with_reducible first|refine oA ?_|refine And.intro (by first|exact hF|exact C1.2 (by omega)|exact hfc) ?_)
  refine hK1 _ ?_;refine oS fun _ hK2=>?_
  refine oR A5O
    [[],[],[1],[],[3],[1,2,3,4],[1,2,3,4,5],[],[7],[1,2,3,4,5,6,7,8],[0,1,2,3,4,5,6,7,8,9],[0,1,2,3,4,5,6,7,8,9,10],[0,1,2,3,4,5,6,7,8,9,10,11]]
    [[212,213,214,215,216,217,218,219,220,221,222,223,224,225,226,227,276,277,278,279,280,281,282,283,284,285,286,287,288,289,290,291,324,325,326,327,328,329,330,331,332,333,334,335,336,337,338,339],[],[],[212,213,214,215,216,217,218,219,220,221,222,223,224,225,226,227],[212,213,214,215,216,217,218,219,220,221,222,223,224,225,226,227],[],[],[212,213,214,215,216,217,218,219,220,221,222,223,224,225,226,227,276,277,278,279,280,281,282,283,284,285,286,287,288,289,290,291],[212,213,214,215,216,217,218,219,220,221,222,223,224,225,226,227,276,277,278,279,280,281,282,283,284,285,286,287,288,289,290,291],[],[],[],[]]
    [[],[],[212,213,214,215,216,217,218,219,220,221,222,223,224,225,226,227],[],[],[],[276,277,278,279,280,281,282,283,284,285,286,287,288,289,290,291],[],[],[324,325,326,327,328,329,330,331,332,333,334,335,336,337,338,339],[],[],[]] (by kernel_rfl) (by kernel_rfl) (A9 (acc:=[]) ?_)
  simp (maxSteps:=2000000)only[go_sem];repeat(with_reducible first|refine oD ?_|refine And.intro (by first|exact hF|exact C1.2 (by omega)|exact hfc) ?_)
  refine hK2 _ ?_;refine A0 ?_;simp only[hres,go_sem];first|exact oG|(refine⟨oG,?_⟩;(repeat' refine And.intro ?_ ?_)<;>first|rfl|(congr 1;done)|simp)
def A2T:E4:=fun f=>if f=84 then some (.g r8) else B3I f
theorem A4t:B4 Tryz.prog A2T:=m8 B52 (B0 Tryz.func84 rfl (by decide)) A5O
attribute [go_sem] A2T r8
set_option maxRecDepth 100000
set_option maxHeartbeats 4000000
def B2r:E4:=fun f=>match A5I f with
 | some k=>some k
 | none=>B2Y f
theorem B6q:B4 Tryz.prog B2r:=N2 B12 B7R
attribute [go_sem] B2r T0
def B2T:E4:=fun f=>match B2r f with
 | some k=>some k
 | none=>A2T f
theorem A18:B4 Tryz.prog B2T:=N2 B6q A4t
attribute [go_sem] B2T T0
def A4I:GCon where
  ps:=[.val ((.row 2 (.int .i64))),.val ((.row 2 (.int .i64))),.po 0]
  os:=[.box [.rd ((.prod (.int .i64) (.prod (.row 26 (.row 2 (.int .i64))) (.prod (.row 95 (.prod (.int .i64) (.prod (.int .i64) (.prod (.int .i64) (.row 2 (.int .i64)))))) (.row 2 (.int .i64))))))]]
  c:=fun x=>B9 x.2.1.1=true∧x.1.1.length=B7 x.2.1.1.2.2.1∧D9 x.1.1=true∧(x.1.2.1.length:Int)=x.2.1.1.1∧D9 x.1.2.1=true
  r:=fun _=>.tup [.c (.ow 10),.c (.ow 11)]
  o:=fun x=>[(10,.row 2 (.int .i64) ((S8 x.2.1.1 x.1.1 x.1.2.1).1) []),(11,.row 2 (.int .i64) ((S8 x.2.1.1 x.1.1 x.1.2.1).2) []),(30,.box [.sc (.int .i64 (x.2.1.1.1)),.rd [] 26 ((.row 2 (.int .i64))) (x.2.1.1.2.1),.rd [] 95 ((.prod (.int .i64) (.prod (.int .i64) (.prod (.int .i64) (.row 2 (.int .i64)))))) (x.2.1.1.2.2.1),.rd [] 2 (.int .i64) (x.2.1.1.2.2.2)])]
  ok:=by
    rintro⟨⟨(cs:List Int),(ff:List Int),_⟩,⟨⟨⟨(pi:Int),(ts:List (List Int)),(ns:List A6),(os:List Int)⟩,_⟩,_⟩⟩
    exact⟨rfl,rfl,by decide⟩
theorem C34:Z2 Tryz.prog 83 A4I:=by
  refine E1 Tryz.func83 rfl ?_
  have hres:Tryz.f83.results.toList=[.tmp 5,.tmp 6]:=rfl
  rintro⟨⟨(cs:List Int),(ff:List Int),_⟩,⟨⟨⟨(pi:Int),(ts:List (List Int)),(ns:List A6),(os:List Int)⟩,_⟩,_⟩⟩ hc hL hO
  simp only[A4I,go_sem] at hL
  simp only[A4I,go_sem] at hO
  simp only[A4I,St.init,St.initG,Tryz.ntmps83,go_sem] 
  obtain⟨hP,hcl,hcs,hfl,hff⟩:=(show B9 (pi,ts,ns,os)=true∧cs.length=B7 ns∧D9 cs=true∧(ff.length:Int)=pi∧D9 ff=true from hc)
  have hF:=(B8 hP).1
  have hn24:ns.length≤24:=(A8 hF).1
  have hS:U3 (pi,ts,ns,os) (O6 ns cs):=A6f (q:=(pi,ts,ns,os)) hcl hcs
  have hfs:C0 (pi,ts,ns,os)=true∧cs.length=B7 ns:=⟨hF,hcl⟩
  obtain⟨cc,hcc⟩:∃cc,O6 ns cs=cc:=⟨_,rfl⟩
  rw[hcc] at hS;have hvo:=a6 (p:=(pi,ts,ns,os)) (s:=cc) (fr:=ff) hF hS hff
  have hos:os.length≤1000∧N9 (E8 (pi,ts,ns,os) cc ff).length os=true:=⟨by have:=(A8 hF).2.1;show os.length≤1000;have h:os.length≤4:=this;omega,by rw[hvo.1];exact(A8 hF).2.2.2.2.2.1⟩
  have hpl:A7v (pi,ts,ns,os) (List.replicate ns.length 0) cc ff=(E8 (pi,ts,ns,os) cc ff,S6 (pi,ts,ns,os) cc ff (E8 (pi,ts,ns,os) cc ff)):=B8H (p:=(pi,ts,ns,os)) hP (by simp) hS.1
  have hnl:(S6 (pi,ts,ns,os) cc ff (E8 (pi,ts,ns,os) cc ff)).flatten.length≤1000000:=by have h:=(x4 hF hcl hcs hff).1;have h2:=A0M hF;rw[show (S6 (pi,ts,ns,os) cc ff (E8 (pi,ts,ns,os) cc ff)).flatten.length=(S8 (pi,ts,ns,os) cs ff).1.length by unfold S8;rw[show O6 (pi,ts,ns,os).2.2.1 cs=cc from hcc],h];omega
  have hcm:S8 (pi,ts,ns,os) cs ff=((S6 (pi,ts,ns,os) cc ff (E8 (pi,ts,ns,os) cc ff)).flatten,J4 (pi,ts,ns,os) (E8 (pi,ts,ns,os) cc ff)):=by unfold S8;rw[show O6 (pi,ts,ns,os).2.2.1 cs=cc from hcc]
  refine oS fun _ hK1=>?_;refine oW A18 ?_;simp only[go_sem];refine hK1 _ ?_;refine oS fun _ hK2=>?_
  refine oR A18
    [[],[],[],[1,2],[0,1,2,3],[0,1,2,3,4]]
    [[276,277,278,279,280,281,282,283,284,285,286,287,288,289,290,291],[],[],[],[],[]]
    [[],[],[],[276,277,278,279,280,281,282,283,284,285,286,287,288,289,290,291],[],[]] (by kernel_rfl) (by kernel_rfl) (A9 (acc:=[]) ?_)
  simp (maxSteps:=2000000)only[List.nodup_cons,List.nodup_nil,List.not_mem_nil,not_false_eq_true,hcc,go_sem];repeat(with_reducible first|refine oD ?_|refine And.intro (by first|exact hfs|exact⟨hP,hS⟩) ?_)
  refine hK2 _ ?_;refine oS fun _ hK3=>?_;refine oW A18 ?_;simp only[hpl,go_sem];repeat(with_reducible first|refine oA ?_|refine And.intro (by first|exact⟨hP,rfl,L9 (pi,ts,ns,os),hS,hfl,hff⟩|exact⟨hP,L9 (pi,ts,ns,os),hS,hfl,hff⟩) ?_)
  refine hK3 _ ?_;refine oS fun _ hK4=>?_;refine oW A18 ?_;simp (maxSteps:=2000000)only[go_sem];repeat(with_reducible first|refine oA ?_|refine And.intro (by first|exact hnl|exact hos) ?_)
  refine hK4 _ ?_;refine A0 ?_;simp only[hres,go_sem]
  first
   | exact oG
   | refine ⟨oG, ?_⟩
     rw[hcm]
     (repeat' refine And.intro ?_ ?_)<;>first|rfl|(congr 1;done)
def B22:E4:=fun f=>if f=83 then some (.g A4I) else B2T f
theorem H1:B4 Tryz.prog B22:=m8 C34 (B0 Tryz.func83 rfl (by decide)) A18
attribute [go_sem] B22 A4I
end Go.Proofs.YtgaogcnfijbahaaGreat
