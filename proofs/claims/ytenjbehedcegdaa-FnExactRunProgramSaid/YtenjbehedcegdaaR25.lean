/-
  Texts of this claim, joined (part 25). No condition beyond those of the theorems.
-/
import Derived.Test.YtenjbehedcegdaaR24
namespace Go.Proofs.Ytenjbehedcegdaa
open Go.RowKit
set_option linter.unusedSimpArgs false
set_option linter.unusedVariables false
set_option maxRecDepth 100000
set_option maxHeartbeats 1000000
def K_l01Wrap:Con:=⟨[.val (.int .i64)],[⟨.int .i64,true⟩],fun _=>True,fun x=>wrap32 x.1⟩
theorem l01Wrap_ok:PureT Try.prog 84 K_l01Wrap:=by
  refine pure_of_body Try.func84 rfl ?_
  have hres:Try.f84.results.toList=[.tmp 2]:=rfl
  rintro⟨(x:Int),_⟩ hc hL
  simp only[K_l01Wrap,go_sem] at hL
  simp only[K_l01Wrap,St.init,St.initG,Try.ntmps84,go_sem] 
  have hu:=uns_bd x
  refine oS fun _ hK1=>?_
  refine oW T_l06Start_ok ?_
  simp only[go_sem]
  refine hK1 _ ?_
  refine oS fun _ hK2=>?_
  refine oW T_l06Start_ok ?_
  simp only[andM',go_sem]
  refine hK2 _ ?_
  refine oS fun _ hK3=>?_
  refine oS fun _ hK4=>?_
  refine oW T_l06Start_ok ?_
  simp only[go_sem]
  refine hK4 _ ?_
  refine oC rfl ?_ ?_
  ·
   intro c0
   have hw:IntKind.i64.wrap (uns x - 4294967296)=uns x - 4294967296:=wrapI (by omega)
   refine oW T_l06Start_ok ?_
   simp only[hw,go_sem]
   refine hK3 _ ?_
   refine oS fun _ hK5=>?_
   refine oW T_l06Start_ok ?_
   simp only[go_sem]
   refine hK5 _ ?_
   refine AWP_ret ?_
   simp only[hres,go_sem]
   first|exact oF|(refine⟨?_,oF⟩;first|exact wrap32_t c0|exact wrap32_f c0)
  intro c0
  refine AWP_skip ?_
  simp only[go_sem]
  refine hK3 _ ?_
  refine oS fun _ hK6=>?_
  refine oW T_l06Start_ok ?_
  simp only[go_sem]
  refine hK6 _ ?_
  refine AWP_ret ?_
  simp only[hres,go_sem]
  first|exact oF|(refine⟨?_,oF⟩;first|exact wrap32_t c0|exact wrap32_f c0)
def T_l01Wrap:Tab:=fun f=>if f=84 then some (.p K_l01Wrap) else T_l06Start f
theorem T_l01Wrap_ok:TabOk Try.prog T_l01Wrap:=tabP l01Wrap_ok (fnOk_of Try.func84 rfl (by decide)) T_l06Start_ok
attribute [go_sem] T_l01Wrap K_l01Wrap
def K_l01Add:Con:=⟨[.val (.int .i64),.val (.int .i64)],[⟨.int .i64,true⟩],fun _=>True,fun x=>wrap32 (x.1+x.2.1)⟩
theorem l01Add_ok:PureT Try.prog 69 K_l01Add:=by
  refine pure_of_body Try.func69 rfl ?_
  have hres:Try.f69.results.toList=[.tmp 4]:=rfl
  rintro⟨(x:Int),(y:Int),_⟩ hc hL
  simp only[K_l01Add,go_sem] at hL
  simp only[K_l01Add,St.init,St.initG,Try.ntmps69,go_sem] 
  refine oS fun _ hK1=>?_
  refine oW T_l01Wrap_ok ?_
  simp only[go_sem]
  refine hK1 _ ?_
  refine oS fun _ hK2=>?_
  refine oW T_l01Wrap_ok ?_
  simp (maxSteps:=2000000)only[go_sem]
  repeat(with_reducible refine oA ?_)
  refine hK2 _ ?_
  refine AWP_ret ?_
  simp only[hres,go_sem]
  first|exact oF|(refine⟨?_,oF⟩;exact wAdd x y)
def T_l01Add:Tab:=fun f=>if f=69 then some (.p K_l01Add) else T_l01Wrap f
theorem T_l01Add_ok:TabOk Try.prog T_l01Add:=tabP l01Add_ok (fnOk_of Try.func69 rfl (by decide)) T_l01Wrap_ok
attribute [go_sem] T_l01Add K_l01Add
def K_l01Sub:Con:=⟨[.val (.int .i64),.val (.int .i64)],[⟨.int .i64,true⟩],fun _=>True,fun x=>wrap32 (x.1 - x.2.1)⟩
theorem l01Sub_ok:PureT Try.prog 70 K_l01Sub:=by
  refine pure_of_body Try.func70 rfl ?_
  have hres:Try.f70.results.toList=[.tmp 4]:=rfl
  rintro⟨(x:Int),(y:Int),_⟩ hc hL
  simp only[K_l01Sub,go_sem] at hL
  simp only[K_l01Sub,St.init,St.initG,Try.ntmps70,go_sem] 
  refine oS fun _ hK1=>?_
  refine oW T_l01Add_ok ?_
  simp only[go_sem]
  refine hK1 _ ?_
  refine oS fun _ hK2=>?_
  refine oW T_l01Add_ok ?_
  simp (maxSteps:=2000000)only[go_sem]
  repeat(with_reducible refine oA ?_)
  refine hK2 _ ?_
  refine AWP_ret ?_
  simp only[hres,go_sem]
  first|exact oF|(refine⟨?_,oF⟩;exact wSub x y)
def T_l01Sub:Tab:=fun f=>if f=70 then some (.p K_l01Sub) else T_l01Add f
theorem T_l01Sub_ok:TabOk Try.prog T_l01Sub:=tabP l01Sub_ok (fnOk_of Try.func70 rfl (by decide)) T_l01Add_ok
attribute [go_sem] T_l01Sub K_l01Sub
def K_l01Mul:Con:=⟨[.val (.int .i64),.val (.int .i64)],[⟨.int .i64,true⟩],fun _=>True,fun x=>wrap32 (x.1 * x.2.1)⟩
theorem l01Mul_ok:PureT Try.prog 71 K_l01Mul:=by
  refine pure_of_body Try.func71 rfl ?_
  have hres:Try.f71.results.toList=[.tmp 4]:=rfl
  rintro⟨(x:Int),(y:Int),_⟩ hc hL
  simp only[K_l01Mul,go_sem] at hL
  simp only[K_l01Mul,St.init,St.initG,Try.ntmps71,go_sem] 
  refine oS fun _ hK1=>?_
  refine oW T_l01Sub_ok ?_
  simp only[go_sem]
  refine hK1 _ ?_
  refine oS fun _ hK2=>?_
  refine oW T_l01Sub_ok ?_
  simp (maxSteps:=2000000)only[go_sem]
  repeat(with_reducible refine oA ?_)
  refine hK2 _ ?_
  refine AWP_ret ?_
  simp only[hres,go_sem]
  first|exact oF|(refine⟨?_,oF⟩;exact wMul x y)
def T_l01Mul:Tab:=fun f=>if f=71 then some (.p K_l01Mul) else T_l01Sub f
theorem T_l01Mul_ok:TabOk Try.prog T_l01Mul:=tabP l01Mul_ok (fnOk_of Try.func71 rfl (by decide)) T_l01Sub_ok
attribute [go_sem] T_l01Mul K_l01Mul
def K_l06Noise:Con:=⟨[.val (.int .i64)],[⟨.int .i64,true⟩],fun _=>True,fun x=>noiseV x.1⟩
theorem l06Noise_ok:PureT Try.prog 75 K_l06Noise:=by
  refine pure_of_body Try.func75 rfl ?_
  have hres:Try.f75.results.toList=[.tmp 2]:=rfl
  rintro⟨(x:Int),_⟩ hc hL
  simp only[K_l06Noise,go_sem] at hL
  simp only[K_l06Noise,St.init,St.initG,Try.ntmps75,go_sem] 
  have hu:=uns_bd x
  refine oS fun _ hK1=>?_
  refine oW T_l01Mul_ok ?_
  simp only[go_sem]
  repeat(with_reducible first|refine oA ?_|refine And.intro (by first|decide) ?_)
  refine hK1 _ ?_
  refine oS fun _ hK2=>?_
  refine oW T_l01Mul_ok ?_
  simp only[andM',go_sem]
  repeat(with_reducible first|refine oA ?_|refine And.intro (by first|decide) ?_)
  refine hK2 _ ?_
  refine oS fun _ hK3=>?_
  refine oS fun _ hK4=>?_
  refine oW T_l01Mul_ok ?_
  simp only[and1',go_sem]
  repeat(with_reducible first|refine oA ?_|refine And.intro (by first|decide) ?_)
  refine hK4 _ ?_
  refine oC rfl ?_ ?_
  ·
   intro c0
   refine oS fun _ hK5=>?_
   refine oW T_l01Mul_ok ?_
   simp (maxSteps:=2000000)only[fdiv1',xorE',go_sem]
   repeat(with_reducible first|refine oA ?_|refine And.intro (by first|decide) ?_)
   refine hK5 _ ?_
   refine AWP_ret ?_
   simp only[hres,go_sem]
   first|exact oF|(refine⟨?_,oF⟩;first|exact(noiseU_t c0).symm|exact(noiseU_f c0).symm)
  intro c0
  refine AWP_skip ?_
  simp only[go_sem]
  refine hK3 _ ?_
  refine oS fun _ hK6=>?_
  refine oW T_l01Mul_ok ?_
  simp only[fdiv1',go_sem]
  repeat(with_reducible first|refine oA ?_|refine And.intro (by first|decide) ?_)
  refine hK6 _ ?_
  refine AWP_ret ?_
  simp only[hres,go_sem]
  first|exact oF|(refine⟨?_,oF⟩;first|exact(noiseU_t c0).symm|exact(noiseU_f c0).symm)
def T_l06Noise:Tab:=fun f=>if f=75 then some (.p K_l06Noise) else T_l01Mul f
theorem T_l06Noise_ok:TabOk Try.prog T_l06Noise:=tabP l06Noise_ok (fnOk_of Try.func75 rfl (by decide)) T_l01Mul_ok
attribute [go_sem] T_l06Noise K_l06Noise
def K_l06Look:Con:=⟨[.val ((.row 2 (.int .i64))),.val (.int .i64)],[⟨.int .i64,true⟩],fun x=>1≤x.1.length∧x.1.length≤16,fun x=>lookV x.1 x.2.1⟩
theorem l06Look_ok:PureT Try.prog 74 K_l06Look:=by
  refine pure_of_body Try.func74 rfl ?_
  have hres:Try.f74.results.toList=[.tmp 4]:=rfl
  rintro⟨(xs:List Int),(x:Int),_⟩ hc hL
  simp only[K_l06Look,go_sem] at hL
  simp only[K_l06Look,St.init,St.initG,Try.ntmps74,go_sem] 
  obtain⟨h1,h2⟩:=(show 1≤xs.length∧xs.length≤16 from hc)
  obtain⟨hl1,hl2,hl3,hl4⟩:=look_bd (t:=xs) (x:=x) h1 h2
  have hlw:IntKind.i64.wrap ((xs.length:Int) * uns x)=(xs.length:Int) * uns x:=wrapI (by omega)
  refine oS fun _ hK1=>?_
  refine oW T_l06Noise_ok ?_
  simp only[go_sem]
  refine hK1 _ ?_
  refine oS fun _ hK2=>?_
  refine oW T_l06Noise_ok ?_
  simp (maxSteps:=2000000)only[andM',hlw,fdiv32',go_sem]
  repeat(with_reducible first|refine oA ?_|refine And.intro (by first|decide) ?_)
  refine hK2 _ ?_
  refine AWP_ret ?_
  simp only[hres,go_sem]
  first|exact oF|exact oFr
def T_l06Look:Tab:=fun f=>if f=74 then some (.p K_l06Look) else T_l06Noise f
theorem T_l06Look_ok:TabOk Try.prog T_l06Look:=tabP l06Look_ok (fnOk_of Try.func74 rfl (by decide)) T_l06Noise_ok
attribute [go_sem] T_l06Look K_l06Look
end Go.Proofs.Ytenjbehedcegdaa
