/-
  Texts of this claim, joined (part 28). No condition beyond those of the theorems.
-/
import Derived.Test.YtflaacndokbddaaGreatVc23
import Derived.Test.YtflaacndokbddaaGreatVc27
namespace Go.Proofs.YtflaacndokbddaaGreat
open Go.RowKit
set_option linter.unusedSimpArgs false
set_option linter.unusedVariables false
set_option maxRecDepth 100000
set_option maxHeartbeats 4000000
def K_l09Times:Con:=⟨[.val ((.row 26 (.row 2 (.int .i64)))),.val ((.row 2 (.int .i64)))],[⟨(.row 2 (.int .i64)),true⟩],fun x=>x.1.length≤1000∧x.2.1.length≤1000∧∀ i,i < x.1.length→x.2.1.length≤(x.1.getD i []).length,fun x=>timesL x.1 x.2.1⟩
theorem l09Times_ok:PureT Tryz.prog 204 K_l09Times:=by
  refine pure_of_body Tryz.func204 rfl ?_
  have hres:Tryz.f204.results.toList=[.tmp 4]:=rfl
  rintro ⟨(rs:List (List Int)),(vs:List Int),_⟩ hc hL
  simp only[K_l09Times,go_sem] at hL
  simp only[K_l09Times,St.init,St.initG,Tryz.ntmps204,go_sem] 
  obtain ⟨hc1,hc2,hcr⟩:=(show rs.length≤1000∧vs.length≤1000∧∀ i,i < rs.length→vs.length≤(rs.getD i []).length from hc)
  refine oS fun _ hK1=>?_
  refine oW T_l09Made_ok ?_
  simp only[go_sem]
  refine hK1 _ ?_
  refine oS fun _ hK2=>?_
  refine oW T_l09Made_ok ?_
  simp only[List.nodup_nil,go_sem]
  repeat (with_reducible refine oA ?_)
  refine hK2 _ ?_
  refine oS fun _ hK3=>?_
  refine oS fun _ hK4=>?_
  refine oW T_l09Made_ok ?_
  simp only[go_sem]
  refine hK4 _ ?_
  refine AWP_block ?_
  refine AWP_loop_k (ι:={ i:Nat // i≤rs.length }) (fun k=>⟨[.c (.rd [] 26 (.row 2 (.int .i64)) (rs)),.c (.rd [] 2 (.int .i64) (vs)),zz,zz,zz,.c (.ow 9005),.c (.sc (.int .i64 (k.1))),zz,zz,zz,zz,zz,zz,zz,zz,zz,zz,zz,zz,zz,zz,zz,zz,zz,zz,zz,zz,zz,zz,zz,zz,zz,zz,zz,zz,zz,zz,zz,zz,zz,zz],[(9005,.row 2 (.int .i64) (timesK rs vs k.1) [])]⟩) (fun k=>rs.length - k.1) ⟨0,by simp⟩ ?_ ?_
  ·
   refine oK ?_
   simp (maxSteps:=2000000)only[go_sem]
   all_goals (first | rfl | ((repeat' refine And.intro ?_ ?_)<;>first | rfl | simp))
  rintro ⟨i,hi⟩ K5 hL5
  have hkl:=timesK_len rs vs i
  refine oS fun _ hK6=>?_
  refine oS fun _ hK7=>?_
  refine oW T_l09Made_ok ?_
  simp only[go_sem]
  refine hK7 _ ?_
  refine oC rfl ?_ ?_
  ·
   intro c0
   refine AWP_skip ?_
   simp only[go_sem]
   refine hK6 _ ?_
   refine oS fun _ hK8=>?_
   refine AWP_block ?_
   refine oS fun _ hK9=>?_
   refine oW T_l09Made_ok ?_
   simp only[go_sem]
   refine hK9 _ ?_
   refine oS fun _ hK10=>?_
   refine oS fun _ hK11=>?_
   refine oW T_l09Made_ok ?_
   simp only[go_sem]
   refine hK11 _ ?_
   refine AWP_block ?_
   refine AWP_loop_k (ι:={ j:Nat // j≤vs.length }) (fun k'=>⟨[.c (.rd [] 26 (.row 2 (.int .i64)) (rs)),.c (.rd [] 2 (.int .i64) (vs)),zz,zz,zz,.c (.ow 9005),.c (.sc (.int .i64 (i))),.c (.sc (.int .i64 (dotN (rs.getD i []) vs k'.1))),.c (.sc (.int .i64 (k'.1))),zz,zz,zz,zz,zz,zz,zz,zz,zz,zz,zz,zz,zz,zz,zz,zz,zz,zz,zz,zz,zz,zz,zz,zz,zz,zz,zz,zz,zz,zz,zz,zz],[(9005,.row 2 (.int .i64) (timesK rs vs i) [])]⟩) (fun k'=>vs.length - k'.1) ⟨0,by simp⟩ ?_ ?_
   ·
    refine oK ?_
    simp (maxSteps:=2000000)only[go_sem]
    all_goals ((repeat' refine And.intro ?_ ?_)<;>first | rfl | (congr 1; done) | (simp; done))
   rintro ⟨j,hj⟩ K12 hL12
   refine oS fun _ hK13=>?_
   refine oS fun _ hK14=>?_
   refine oW T_l09Made_ok ?_
   simp only[go_sem]
   refine hK14 _ ?_
   refine oC rfl ?_ ?_
   ·
    intro c1
    have hq:=hcr i (by omega)
    refine AWP_skip ?_
    simp only[go_sem]
    refine hK13 _ ?_
    refine oS fun _ hK15=>?_
    refine AWP_block ?_
    refine oR T_l09Made_ok
      [[],[],[],[1,2],[1,2,3],[],[1,2,3,4,5],[1,2,3,4,5,6],[],[],[8,9],[8,9,10],[1,2,3,4,5,6,7,8,9,10,11],[0,1,2,3,4,5,6,7,8,9,10,11,12],[0,1,2,3,4,5,6,7,8,9,10,11,12,13]]
      [[],[],[],[],[],[],[],[],[],[],[],[],[],[],[]]
      [[],[],[],[],[],[],[],[],[],[],[],[],[],[],[]] (by kernel_rfl) (by kernel_rfl) (adrawR_ok (acc:=[]) ?_)
    simp (maxSteps:=2000000)only[w32_ar,go_sem]
    repeat (with_reducible refine oD ?_)
    refine hK15 _ ?_
    refine oW T_l09Made_ok ?_
    simp only[go_sem]
    refine hL12 ⟨j+1,by omega⟩ _ (oK ?_) ?_
    ·
     simp (maxSteps:=2000000)only[go_sem]
     all_goals ((repeat' refine And.intro ?_ ?_)<;>first | rfl | exact wk (by omega) | (congr 1; done))
    ·
     first | (simp only[]; omega) | omega | (simp; omega)
   intro c1
   have hje:j=vs.length:=by omega
   have hnx:timesK rs vs i++[dotN (rs.getD i []) vs j]=timesK rs vs (i+1):=by rw [hje]; exact timesK_next _ _ _
   refine AWP_exit ?_
   simp only[go_sem]
   refine hK10 _ ?_
   refine oW T_l09Made_ok ?_
   simp (maxSteps:=2000000)only[hkl,go_sem]
   repeat (with_reducible refine oA ?_)
   refine hK8 _ ?_
   refine oW T_l09Made_ok ?_
   simp only[go_sem]
   refine hL5 ⟨i+1,by omega⟩ _ (oK ?_) ?_
   ·
    simp (maxSteps:=2000000)only[go_sem]
    all_goals ((repeat' refine And.intro ?_ ?_)<;>first | rfl | exact wk (by omega) | exact hnx | (congr 1; exact hnx) | (congr 1; done))
   ·
    first | (simp only[]; omega) | omega | (simp; omega)
  intro c0
  have hke:i=rs.length:=by omega
  refine AWP_exit ?_
  simp only[go_sem]
  refine hK3 _ ?_
  refine oS fun _ hK16=>?_
  refine oW T_l09Made_ok ?_
  simp only[go_sem]
  refine hK16 _ ?_
  refine AWP_ret ?_
  simp only[hres,go_sem]
  first
   | exact oF
   | refine ⟨?_,oF⟩
     rw [hke]
     rfl
def T_l09Times:Tab:=fun f=>if f=204 then some (.p K_l09Times) else T_l09Made f
theorem T_l09Times_ok:TabOk Tryz.prog T_l09Times:=tabP l09Times_ok (fnOk_of Tryz.func204 rfl (by decide)) T_l09Made_ok
attribute [go_sem] T_l09Times K_l09Times
def K_l09Sum:Con:=⟨[.val ((.row 2 (.int .i64))),.val ((.row 2 (.int .i64)))],[⟨(.row 2 (.int .i64)),true⟩],fun x=>x.1.length≤x.2.1.length∧x.1.length≤1000,fun x=>sumV x.1 x.2.1⟩
theorem l09Sum_ok:PureT Tryz.prog 221 K_l09Sum:=by
  refine pure_of_body Tryz.func221 rfl ?_
  have hres:Tryz.f221.results.toList=[.tmp 4]:=rfl
  rintro ⟨(xs:List Int),(ys:List Int),_⟩ hc hL
  simp only[K_l09Sum,go_sem] at hL
  simp only[K_l09Sum,St.init,St.initG,Tryz.ntmps221,go_sem] 
  obtain ⟨hc1,hc2⟩:=(show xs.length≤ys.length∧xs.length≤1000 from hc)
  refine oS fun _ hK1=>?_
  refine oW T_l09Times_ok ?_
  simp only[go_sem]
  refine hK1 _ ?_
  refine oS fun _ hK2=>?_
  refine oW T_l09Times_ok ?_
  simp only[List.nodup_nil,go_sem]
  repeat (with_reducible refine oA ?_)
  refine hK2 _ ?_
  refine oS fun _ hK3=>?_
  refine oS fun _ hK4=>?_
  refine oW T_l09Times_ok ?_
  simp only[go_sem]
  refine hK4 _ ?_
  refine AWP_block ?_
  refine AWP_loop_k (ι:={ k:Nat // k≤xs.length }) (fun k=>⟨[.c (.rd [] 2 (.int .i64) (xs)),.c (.rd [] 2 (.int .i64) (ys)),zz,zz,zz,.c (.ow 9005),.c (.sc (.int .i64 (k.1))),zz,zz,zz,zz,zz,zz,zz,zz,zz,zz,zz,zz,zz,zz,zz,zz,zz,zz,zz,zz],[(9005,.row 2 (.int .i64) (sumK xs ys k.1) [])]⟩) (fun k=>xs.length - k.1) ⟨0,by simp⟩ ?_ ?_
  ·
   refine oK ?_
   simp (maxSteps:=2000000)only[go_sem]
   all_goals (first | rfl | ((repeat' refine And.intro ?_ ?_)<;>first | rfl | simp))
  rintro ⟨k,hk⟩ K5 hL5
  have hkl:=sumK_len xs ys k
  refine oS fun _ hK6=>?_
  refine oS fun _ hK7=>?_
  refine oW T_l09Times_ok ?_
  simp only[go_sem]
  refine hK7 _ ?_
  refine oC rfl ?_ ?_
  ·
   intro c0
   have hnx:=sumK_next xs ys k
   refine AWP_skip ?_
   simp only[go_sem]
   refine hK6 _ ?_
   refine oS fun _ hK8=>?_
   refine AWP_block ?_
   refine oR T_l09Times_ok
     [[],[],[],[1,2],[1,2,3],[],[],[5,6],[5,6,7],[1,2,3,4,5,6,7,8],[1,2,3,4,5,6,7,8,9],[0,1,2,3,4,5,6,7,8,9,10],[0,1,2,3,4,5,6,7,8,9,10,11]]
     [[484],[],[],[],[],[],[],[],[],[],[],[],[]]
     [[],[],[],[],[],[],[],[],[],[],[484],[],[]] (by kernel_rfl) (by kernel_rfl) (adrawR_ok (acc:=[]) ?_)
   simp (maxSteps:=2000000)only[hkl,go_sem]
   repeat (with_reducible refine oD ?_)
   refine hK8 _ ?_
   refine oW T_l09Times_ok ?_
   simp only[go_sem]
   refine hL5 ⟨k+1,by omega⟩ _ (oK ?_) ?_
   ·
    simp (maxSteps:=2000000)only[go_sem]
    all_goals ((repeat' refine And.intro ?_ ?_)<;>first | rfl | exact wk (by omega) | exact hnx | (congr 1; exact hnx) | (congr 1; done))
   ·
    first | (simp only[]; omega) | omega | (simp; omega)
  intro c0
  have hke:k=xs.length:=by omega
  refine AWP_exit ?_
  simp only[go_sem]
  refine hK3 _ ?_
  refine oS fun _ hK9=>?_
  refine oW T_l09Times_ok ?_
  simp only[go_sem]
  refine hK9 _ ?_
  refine AWP_ret ?_
  simp only[hres,go_sem]
  first
   | exact oF
   | refine ⟨?_,oF⟩
     rw [hke]
     rfl
def T_l09Sum:Tab:=fun f=>if f=221 then some (.p K_l09Sum) else T_l09Times f
theorem T_l09Sum_ok:TabOk Tryz.prog T_l09Sum:=tabP l09Sum_ok (fnOk_of Tryz.func221 rfl (by decide)) T_l09Times_ok
attribute [go_sem] T_l09Sum K_l09Sum
def K_l09Step:Con:=⟨[.ptr (.prod (.int .i64) (.prod (.row 26 (.row 2 (.int .i64))) (.prod (.row 26 (.row 2 (.int .i64))) (.prod (.row 26 (.row 2 (.int .i64))) (.row 26 (.row 2 (.int .i64))))))),.val ((.row 2 (.int .i64))),.val ((.row 2 (.int .i64)))],[⟨(.row 2 (.int .i64)),true⟩,⟨(.row 2 (.int .i64)),true⟩],fun x=>stepC' x.1 x.2.1 x.2.2.1,fun x=>stepL x.1 x.2.1 x.2.2.1⟩
theorem l09Step_ok:PureT Tryz.prog 205 K_l09Step:=by
  refine pure_of_body Tryz.func205 rfl ?_
  have hres:Tryz.f205.results.toList=[.tmp 6,.tmp 7]:=rfl
  rintro ⟨⟨(ni:Int),(la:List (List Int)),(lb:List (List Int)),(lc:List (List Int)),(ld:List (List Int))⟩,(ss:List Int),(ff:List Int),_⟩ hc hL
  simp only[K_l09Step,go_sem] at hL
  simp only[K_l09Step,St.init,St.initG,Tryz.ntmps205,go_sem] 
  obtain ⟨hW,hfl,hs1,hcl⟩:=(show stepC' (ni,la,lb,lc,ld) ss ff from hc)
  have hcl:lc.length≤1000:=hcl
  have hfl:ff.length=ni.toNat:=hfl
  obtain ⟨r1,r2,r3,r4⟩:=hW.stp
  have hwa:la.length=ss.length:=hW.a.1
  have hwb:lb.length=ss.length:=hW.b.1
  have hwd:ld.length=lc.length:=hW.d.1
  have hw4:ni≤4:=hW.i4
  have hA:la.length≤1000∧ss.length≤1000∧∀ i,i < la.length→ss.length≤(la.getD i []).length:=⟨by omega,hs1,r1⟩
  have hB:lb.length≤1000∧ff.length≤1000∧∀ i,i < lb.length→ff.length≤(lb.getD i []).length:=⟨by omega,by omega,by rw [hfl]; exact r2⟩
  have hC:lc.length≤1000∧ss.length≤1000∧∀ i,i < lc.length→ss.length≤(lc.getD i []).length:=⟨hcl,hs1,r3⟩
  have hD:ld.length≤1000∧ff.length≤1000∧∀ i,i < ld.length→ff.length≤(ld.getD i []).length:=⟨by omega,by omega,by rw [hfl]; exact r4⟩
  have hAB:(timesL la ss).length≤(timesL lb ff).length∧(timesL la ss).length≤1000:=by rw [timesL_len,timesL_len]; exact ⟨by omega,by omega⟩
  have hCD:(timesL lc ss).length≤(timesL ld ff).length∧(timesL lc ss).length≤1000:=by rw [timesL_len,timesL_len]; exact ⟨by omega,hcl⟩
  refine oS fun _ hK1=>?_
  refine oW T_l09Sum_ok ?_
  simp only[go_sem]
  repeat (with_reducible first | refine oA ?_ | refine And.intro (by first | exact hA | exact hB | exact hAB | exact hC | exact hD | exact hCD) ?_)
  refine hK1 _ ?_
  refine oS fun _ hK2=>?_
  refine oR T_l09Sum_ok
    [[],[0],[0,1],[0,1,2],[],[0,1,2,3,4],[],[6],[6,7],[6,7,8],[],[0,1,2,3,4,5,6,7,8,9,10],[0,1,2,3,4,5,6,7,8,9,10,11],[0,1,2,3,4,5,6,7,8,9,10,11,12]]
    [[],[],[],[],[],[],[324,325,326,327,328,329,330,331,332,333,334,335,336,337,338,339],[324,325,326,327,328,329,330,331,332,333,334,335,336,337,338,339],[324,325,326,327,328,329,330,331,332,333,334,335,336,337,338,339],[324,325,326,327,328,329,330,331,332,333,334,335,336,337,338,339],[324,325,326,327,328,329,330,331,332,333,334,335,336,337,338,339],[],[],[]]
    [[],[],[],[],[],[324,325,326,327,328,329,330,331,332,333,334,335,336,337,338,339],[],[],[],[],[],[],[],[]] (by kernel_rfl) (by kernel_rfl) (adrawR_ok (acc:=[]) ?_)
  simp (maxSteps:=2000000)only[List.nodup_cons,List.nodup_nil,List.not_mem_nil,not_false_eq_true,go_sem]
  repeat (with_reducible first | refine oD ?_ | refine And.intro (by first | exact hA | exact hB | exact hAB | exact hC | exact hD | exact hCD) ?_)
  refine hK2 _ ?_
  refine oS fun _ hK3=>?_
  refine oR T_l09Sum_ok
    [[],[],[1],[1,2],[1,2,3],[],[1,2,3,4,5],[],[7],[7,8],[7,8,9],[],[1,2,3,4,5,6,7,8,9,10,11],[1,2,3,4,5,6,7,8,9,10,11,12],[0,1,2,3,4,5,6,7,8,9,10,11,12,13],[0,1,2,3,4,5,6,7,8,9,10,11,12,13,14]]
    [[548,549,550,551,552,553,554,555,556,557,558,559,560,561,562,563,644,645,646,647,648,649,650,651,652,653,654,655,656,657,658,659,660,661,662,663,664,665,666,667,668,669,670,671,672,673,674,675],[],[],[],[],[],[],[548,549,550,551,552,553,554,555,556,557,558,559,560,561,562,563],[548,549,550,551,552,553,554,555,556,557,558,559,560,561,562,563],[548,549,550,551,552,553,554,555,556,557,558,559,560,561,562,563],[548,549,550,551,552,553,554,555,556,557,558,559,560,561,562,563],[548,549,550,551,552,553,554,555,556,557,558,559,560,561,562,563],[],[],[],[]]
    [[],[],[],[],[],[],[548,549,550,551,552,553,554,555,556,557,558,559,560,561,562,563],[],[],[],[],[],[644,645,646,647,648,649,650,651,652,653,654,655,656,657,658,659],[660,661,662,663,664,665,666,667,668,669,670,671,672,673,674,675],[],[]] (by kernel_rfl) (by kernel_rfl) (adrawR_ok (acc:=[]) ?_)
  simp (maxSteps:=2000000)only[List.nodup_cons,List.nodup_nil,List.not_mem_nil,not_false_eq_true,go_sem]
  repeat (with_reducible first | refine oD ?_ | refine And.intro (by first | exact hA | exact hB | exact hAB | exact hC | exact hD | exact hCD) ?_)
  refine hK3 _ ?_
  refine AWP_ret ?_
  simp only[hres,go_sem]
  first | exact oF | (refine ⟨?_,oF⟩; first | exact ⟨rfl,rfl⟩ | rfl)
def T_l09Step:Tab:=fun f=>if f=205 then some (.p K_l09Step) else T_l09Sum f
theorem T_l09Step_ok:TabOk Tryz.prog T_l09Step:=tabP l09Step_ok (fnOk_of Tryz.func205 rfl (by decide)) T_l09Sum_ok
attribute [go_sem] T_l09Step K_l09Step
def K_l04Trim:Con:=⟨[.val ((.row 2 (.int .i64)))],[⟨(.row 2 (.int .i64)),true⟩],fun x=>x.1.length≤1000,fun x=>trimL x.1⟩
theorem l04Trim_ok:PureT Tryz.prog 155 K_l04Trim:=by
  refine pure_of_body Tryz.func155 rfl ?_
  have hres:Tryz.f155.results.toList=[.tmp 2]:=rfl
  rintro ⟨(xs:List Int),_⟩ hc hL
  simp only[K_l04Trim,go_sem] at hL
  simp only[K_l04Trim,St.init,St.initG,Tryz.ntmps155,go_sem] 
  have hx:xs.length≤1000:=hc
  refine oS fun _ hK1=>?_
  refine oW T_l09Step_ok ?_
  simp only[go_sem]
  refine hK1 _ ?_
  refine oS fun _ hK2=>?_
  refine oW T_l09Step_ok ?_
  simp only[go_sem]
  refine hK2 _ ?_
  refine oS fun _ hK3=>?_
  refine AWP_block ?_
  refine AWP_loop_k (ι:={ n:Nat // n≤xs.length∧tl xs xs.length=tl xs n }) (fun k=>⟨[.c (.rd [] 2 (.int .i64) (xs)),zz,zz,.c (.sc (.int .i64 (k.1))),zz,zz,zz,zz,zz,zz,zz,zz,zz,zz,zz,zz,zz,zz,zz,zz,zz,zz,zz,zz,zz],[]⟩) (fun k=>k.1) ⟨xs.length,Nat.le_refl _,rfl⟩ ?_ ?_
  ·
   refine oK ?_
   simp (maxSteps:=2000000)only[go_sem]
   all_goals (first | rfl | ((repeat' refine And.intro ?_ ?_)<;>first | rfl | simp))
  rintro ⟨n,hn,ht⟩ K4 hL4
  have hwt:0 < n→(IntKind.i64.wrap ((n:Int) - 1)).toNat=n - 1:=fun h=>by rw [wrapI (by omega)]; omega
  have htl:(List.take n xs).length≤1099511627776:=by rw [List.length_take]; omega
  have hwn:0 < n→IntKind.i64.wrap ((n:Int) - 1)=((n - 1:Nat):Int):=fun h=>by rw [wrapI (by omega)]; omega
  refine oS fun _ hK5=>?_
  refine oS fun _ hK6=>?_
  have hz:0 < n→((n - 1:Nat):Int).toNat=n - 1:=fun _=>by omega
  refine oW T_l09Step_ok ?_
  simp (maxSteps:=2000000)only[go_sem]
  repeat' (with_reducible first | refine oA ?_ | refine And.intro (by first | omega) ?_ | refine oT (fun g2=>?_) (fun g2=>?_) | refine oE (fun g2=>?_) (fun g2=>?_))
  all_goals
   refine hK6 _ ?_
   refine AWP_cond rfl ?_ ?_
   ·
    intro c0
    try simp only[zA,zB,zC,zD,zE,zF,zG,zH,zI] at c0
    all_goals
     refine AWP_skip ?_
     simp only[go_sem]
     refine hK5 _ ?_
     refine AWP_block ?_
     refine oW T_l09Step_ok ?_
     simp only[go_sem]
     refine hL4 ⟨n - 1,by omega,trim_go ht (by omega) (by first | assumption | (clear hK1 hK2 hK3 hL4 hK5 hK6; simp_all; done) | (have e:=hwt (by omega); clear hK1 hK2 hK3 hL4 hK5 hK6; simp_all; done) | (have e:=hwt (by omega); clear hK1 hK2 hK3 hL4 hK5 hK6; rw [e] at *; simp_all))⟩ _ (oK ?_) ?_
     ·
      simp (maxSteps:=2000000)only[go_sem]
      all_goals ((repeat' refine And.intro ?_ ?_)<;>first | rfl | (rw [hwn (by omega)]; done) | (rw [wrapI (by omega)]; omega) | (congr 1; done))
     ·
      simp only[]; omega
   ·
    intro c0
    try simp only[zA,zB,zC,zD,zE,zF,zG,zH,zI] at c0
    all_goals
     refine AWP_exit ?_
     simp only[go_sem]
     refine hK3 _ ?_
     refine oS fun _ hK7=>?_
     refine oS fun _ hK8=>?_
     refine oW T_l09Step_ok ?_
     simp only[go_sem]
     refine hK8 _ ?_
     refine AWP_cond rfl ?_ ?_
     ·
      intro c1
      try simp only[zA,zB,zC,zD,zE,zF,zG,zH,zI] at c1
      all_goals
       refine oS fun _ hK9=>?_
       refine oW T_l09Step_ok ?_
       simp only[List.nodup_nil,go_sem]
       repeat (with_reducible refine oA ?_)
       refine hK9 _ ?_
       refine AWP_ret ?_
       simp only[hres,go_sem]
       first
        | exact oF
        | refine ⟨?_,oF⟩
          have hn0:n=0:=by omega
          clear hK1 hK2 hK3 hL4 hK5 hK6 hK7 hK8 hK9
          subst hn0
          exact (trim_none ht).symm
     ·
      intro c1
      try simp only[zA,zB,zC,zD,zE,zF,zG,zH,zI] at c1
      all_goals
       refine AWP_skip ?_
       simp only[go_sem]
       refine hK7 _ ?_
       refine oS fun _ hK10=>?_
       refine oW T_l09Step_ok ?_
       simp (maxSteps:=2000000)only[go_sem]
       repeat (with_reducible first | refine oA ?_ | refine And.intro (by first | exact htl | omega) ?_)
       refine hK10 _ ?_
       refine AWP_ret ?_
       simp only[hres,go_sem]
       first
        | exact oF
        | refine ⟨?_,oF⟩
          refine (trim_end ht hn (by omega) ?_).symm
          first | (left; omega) | (right; assumption) | (right; have e:=hwn (by omega); rw [e,Int.toNat_natCast] at c0; exact c0) | (right; clear hK1 hK2 hK3 hL4 hK5 hK6 hK7 hK8 hK10; simp_all; done)
def T_l04Trim:Tab:=fun f=>if f=155 then some (.p K_l04Trim) else T_l09Step f
theorem T_l04Trim_ok:TabOk Tryz.prog T_l04Trim:=tabP l04Trim_ok (fnOk_of Tryz.func155 rfl (by decide)) T_l09Step_ok
attribute [go_sem] T_l04Trim K_l04Trim
def K_l04Mul:Con:=⟨[.val ((.row 2 (.int .i64))),.val ((.row 2 (.int .i64)))],[⟨(.row 2 (.int .i64)),true⟩],fun x=>x.1.length≤400∧x.2.1.length≤400,fun x=>prodL x.1 x.2.1⟩
theorem l04Mul_ok:PureT Tryz.prog 153 K_l04Mul:=by
  refine pure_of_body Tryz.func153 rfl ?_
  have hres:Tryz.f153.results.toList=[.tmp 4]:=rfl
  rintro ⟨(xs:List Int),(ys:List Int),_⟩ hc hL
  simp only[K_l04Mul,go_sem] at hL
  simp only[K_l04Mul,St.init,St.initG,Tryz.ntmps153,go_sem] 
  obtain ⟨hx,hy⟩:=(show xs.length≤400∧ys.length≤400 from hc)
  refine oS fun _ hK1=>?_
  refine oW T_l04Trim_ok ?_
  simp only[go_sem]
  refine hK1 _ ?_
  refine oS fun _ hK2=>?_
  refine oS fun _ hK3=>?_
  refine oW T_l04Trim_ok ?_
  simp (maxSteps:=2000000)only[go_sem]
  repeat' (with_reducible first | refine oA ?_ | refine oT (fun g1=>?_) (fun g1=>?_) | refine oE (fun g1=>?_) (fun g1=>?_))
  all_goals
   refine hK3 _ ?_
   refine AWP_cond rfl ?_ ?_
   ·
    intro c0
    try simp only[zA,zB,zC,zD,zE,zF,zG,zH,zI] at c0
    all_goals
     refine oS fun _ hK4=>?_
     refine oW T_l04Trim_ok ?_
     simp only[List.nodup_nil,go_sem]
     repeat (with_reducible refine oA ?_)
     refine hK4 _ ?_
     refine AWP_ret ?_
     simp only[hres,go_sem]
     first | exact oF | (refine ⟨?_,oF⟩; exact (prodL_nil (by omega)).symm)
   ·
    intro c0
    try simp only[zA,zB,zC,zD,zE,zF,zG,zH,zI] at c0
    all_goals
     refine AWP_skip ?_
     simp only[go_sem]
     refine hK2 _ ?_
     refine oS fun _ hK5=>?_
     have hwN:IntKind.i64.wrap (IntKind.i64.wrap ((xs.length:Int)+(ys.length:Int)) - 1)=((xs.length+ys.length - 1):Nat):=by rw [wrapI (n:=(xs.length:Int)+(ys.length:Int)) (by omega),wrapI (by omega)]; omega
     refine oW T_l04Trim_ok ?_
     simp (maxSteps:=2000000)only[List.nodup_nil,hwN,Int.toNat_natCast,go_sem]
     repeat (with_reducible first | refine oA ?_ | refine And.intro (by first | omega) ?_)
     refine hK5 _ ?_
     refine oS fun _ hK6=>?_
     refine oS fun _ hK7=>?_
     refine oW T_l04Trim_ok ?_
     simp only[go_sem]
     refine hK7 _ ?_
     refine AWP_block ?_
     refine AWP_loop_k (ι:={ i:Nat // i≤xs.length }) (fun k=>⟨[.c (.rd [] 2 (.int .i64) (xs)),.c (.rd [] 2 (.int .i64) (ys)),zz,zz,zz,.c (.ow 9005),.c (.sc (.int .i64 (k.1))),zz,zz,zz,zz,zz,zz,zz,zz,zz,zz,zz,zz,zz,zz,zz,zz,zz,zz,zz,zz,zz,zz,zz,zz,zz,zz,zz,zz,zz,zz,zz,zz,zz,zz,zz,zz,zz,zz,zz,zz,zz,zz,zz,zz,zz,zz,zz,zz,zz,zz,zz,zz],[(9005,.row 2 (.int .i64) (mlP xs ys (xs.length+ys.length - 1) k.1 0) [])]⟩) (fun k=>xs.length - k.1) ⟨0,by simp⟩ ?_ ?_
     ·
      refine oK ?_
      simp (maxSteps:=2000000)only[go_sem]
      all_goals ((repeat' refine And.intro ?_ ?_)<;>first | rfl | exact (mlP_0 _ _ _).symm | (congr 1; exact (mlP_0 _ _ _).symm) | (congr 1; done) | (simp; done))
     rintro ⟨i,hi⟩ K8 hL8
     refine oS fun _ hK9=>?_
     refine oS fun _ hK10=>?_
     refine oW T_l04Trim_ok ?_
     simp only[go_sem]
     refine hK10 _ ?_
     refine AWP_cond rfl ?_ ?_
     ·
      intro c1
      try simp only[zA,zB,zC,zD,zE,zF,zG,zH,zI] at c1
      all_goals
       refine AWP_skip ?_
       simp only[go_sem]
       refine hK9 _ ?_
       refine oS fun _ hK11=>?_
       refine AWP_block ?_
       refine oS fun _ hK12=>?_
       refine oW T_l04Trim_ok ?_
       simp only[go_sem]
       refine hK12 _ ?_
       refine AWP_block ?_
       refine AWP_loop_k (ι:={ j:Nat // j≤ys.length }) (fun k'=>⟨[.c (.rd [] 2 (.int .i64) (xs)),.c (.rd [] 2 (.int .i64) (ys)),zz,zz,zz,.c (.ow 9005),.c (.sc (.int .i64 (i))),.c (.sc (.int .i64 (k'.1))),zz,zz,zz,zz,zz,zz,zz,zz,zz,zz,zz,zz,zz,zz,zz,zz,zz,zz,zz,zz,zz,zz,zz,zz,zz,zz,zz,zz,zz,zz,zz,zz,zz,zz,zz,zz,zz,zz,zz,zz,zz,zz,zz,zz,zz,zz,zz,zz,zz,zz,zz],[(9005,.row 2 (.int .i64) (mlP xs ys (xs.length+ys.length - 1) i k'.1) [])]⟩) (fun k'=>ys.length - k'.1) ⟨0,by simp⟩ ?_ ?_
       ·
        refine oK ?_
        simp (maxSteps:=2000000)only[go_sem]
        all_goals ((repeat' refine And.intro ?_ ?_)<;>first | rfl | (congr 1; done) | (simp; done))
       rintro ⟨j,hj⟩ K13 hL13
       have hml:=mlP_len xs ys (xs.length+ys.length - 1) i j
       refine oS fun _ hK14=>?_
       refine oS fun _ hK15=>?_
       refine oW T_l04Trim_ok ?_
       simp only[go_sem]
       refine hK15 _ ?_
       refine AWP_cond rfl ?_ ?_
       ·
        intro c2
        try simp only[zA,zB,zC,zD,zE,zF,zG,zH,zI] at c2
        all_goals
         have hwi:IntKind.i64.wrap ((i:Int)+(j:Int))=((i+j:Nat):Int):=by rw [wrapI (by omega)]; omega
         have hnx:=mlP_next (a:=xs) (b:=ys) (N:=(xs.length+ys.length - 1)) (i:=i) (k:=j) (by omega)
         refine AWP_skip ?_
         simp only[go_sem]
         refine hK14 _ ?_
         refine oS fun _ hK16=>?_
         refine AWP_block ?_
         refine oR T_l04Trim_ok
           [[],[],[],[1,2],[],[],[],[5,6],[4,5,6,7],[4,5,6,7,8],[],[],[10,11],[10,11,12],[],[],[14,15],[14,15,16],[10,11,12,13,14,15,16,17],[4,5,6,7,8,9,10,11,12,13,14,15,16,17,18],[0,1,2,3,4,5,6,7,8,9,10,11,12,13,14,15,16,17,18,19],[0,1,2,3,4,5,6,7,8,9,10,11,12,13,14,15,16,17,18,19,20]]
           [[],[],[],[],[],[],[],[],[],[],[],[],[],[],[],[],[],[],[],[],[],[]]
           [[],[],[],[],[],[],[],[],[],[],[],[],[],[],[],[],[],[],[],[],[],[]] (by kernel_rfl) (by kernel_rfl) (adrawR_ok (acc:=[]) ?_)
         simp (maxSteps:=2000000)only[hml,hwi,w32_ar,Int.toNat_natCast,go_sem]
         repeat (with_reducible first | refine oD ?_ | refine And.intro (by first | omega) ?_)
         refine hK16 _ ?_
         refine oW T_l04Trim_ok ?_
         simp only[go_sem]
         refine hL13 ⟨j+1,by omega⟩ _ (oK ?_) ?_
         ·
          simp (maxSteps:=2000000)only[go_sem]
          all_goals ((repeat' refine And.intro ?_ ?_)<;>first | rfl | exact wk (by omega) | exact hnx | (congr 1; exact hnx) | (congr 1; done))
         ·
          first | (simp only[]; omega) | omega | (simp; omega)
       ·
        intro c2
        try simp only[zA,zB,zC,zD,zE,zF,zG,zH,zI] at c2
        all_goals
         have hje:ys.length≤j:=by omega
         have hqe:mlP xs ys (xs.length+ys.length - 1) i j=mlP xs ys (xs.length+ys.length - 1) (i+1) 0:=mlP_end hje
         refine AWP_exit ?_
         simp only[go_sem]
         refine hK11 _ ?_
         refine oW T_l04Trim_ok ?_
         simp only[go_sem]
         refine hL8 ⟨i+1,by omega⟩ _ (oK ?_) ?_
         ·
          simp (maxSteps:=2000000)only[go_sem]
          all_goals ((repeat' refine And.intro ?_ ?_)<;>first | rfl | exact wk (by omega) | exact hqe | (congr 1; exact hqe) | (congr 1; done))
         ·
          first | (simp only[]; omega) | omega | (simp; omega)
     ·
      intro c1
      try simp only[zA,zB,zC,zD,zE,zF,zG,zH,zI] at c1
      all_goals
       have hie:xs.length≤i:=by omega
       have hfin:mlP xs ys (xs.length+ys.length - 1) i 0=convN xs ys (xs.length+ys.length - 1):=mlP_all hie
       have hlM:(mlP xs ys (xs.length+ys.length - 1) i 0).length≤1000:=by rw [mlP_len]; omega
       refine AWP_exit ?_
       simp only[go_sem]
       refine hK6 _ ?_
       refine oS fun _ hK17=>?_
       refine oW T_l04Trim_ok ?_
       simp only[go_sem]
       repeat (with_reducible first | refine oA ?_ | refine And.intro (by first | exact hlM) ?_)
       refine hK17 _ ?_
       refine AWP_ret ?_
       simp only[hres,go_sem]
       first | exact oF | (refine ⟨?_,oF⟩; first | exact prodL_less | (rw [hfin]; exact prodL_less))
def T_l04Mul:Tab:=fun f=>if f=153 then some (.p K_l04Mul) else T_l04Trim f
theorem T_l04Mul_ok:TabOk Tryz.prog T_l04Mul:=tabP l04Mul_ok (fnOk_of Tryz.func153 rfl (by decide)) T_l04Trim_ok
attribute [go_sem] T_l04Mul K_l04Mul
end Go.Proofs.YtflaacndokbddaaGreat
