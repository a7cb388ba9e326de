/-
  Texts of this claim, joined (part 15). No condition beyond those of the theorems.
-/
import Derived.Test.YthhogcknkimijaaDoorV13
import Derived.Test.YthhogcknkimijaaDoorV09
import Derived.Test.YthhogcknkimijaaDoorV12
import Derived.Lib.LaidTab
import Derived.Sort.Grow
import Derived.Test.YthhogcknkimijaaDoorV07
import Derived.Test.YthhogcknkimijaaDoorV14
namespace Go.Proofs.YthhogcknkimijaaDoor
open Go.RowKit
set_option linter.unusedSimpArgs false
set_option linter.unusedVariables false
theorem pure_liftG {P:Program} {f:FuncId} {k:Con}
 (h:∀x,k.c x→∀(R:Rz) (w:World) (vs:Array Value),Glob R w→VRt R w (avs k.ps x) vs.toList→Calls P f vs w fun e w'=>∃v,e=.returned v∧VR R w' (outAll inN [] k.rs (k.r x)) v∧obsOk R w' (outOs inN [] 0 k.rs (k.r x))∧Below w.heap.size w w') :
 PureT P f k:=fun x hc R w vs hg hv=>(h x hc R w vs hg hv).mono fun _ _ ⟨v,he,h1,h2,hb⟩=>⟨v,R,he,h1,h2,.of_below hb⟩
theorem below_grownS (w:World) (k:Nat) (os:Array Obj):Below w.heap.size w (Sort.grow (w.drewN k) os) :=
 ⟨rfl,rfl,rfl,by simp[Sort.grow,World.drewN],fun b hb=>by simp[Sort.grow,World.drewN,Array.getElem?_append,hb]⟩
theorem tab10 {R : Rz} {w : World} (h : Glob R w) : Lib.TabIs Tryd.prog w "internal/strconv.uint64pow10" .u64 Lib.pow10Tab := by
 obtain⟨_,h2,h3⟩:=h (_:Nat × _) (List.mem_cons_self)
 have hc:∀j,w.cell? ⟨0,j,none⟩=((List.range 20).map fun i=>Value.int .u64 ((10 ^ i:Nat):Int))[j]?:=h3
 unfold Lib.TabIs World.var?
 rw [show Tryd.prog.globalNamed "internal/strconv.uint64pow10" = some 0 by kernel_rfl]
 simp only[Option.bind_some]
 unfold World.cell? at hc
 have h0:=hc 0
 split
 · rename_i cs e f hh
   simp only[hh] at hc
   congr 1
   apply Array.ext'
   apply List.ext_getElem?
   intro j
   have:=hc j
   simp only[Option.isSome_none,Bool.false_eq_true,if_false] at this
   rw[Array.getElem?_toList,this]
   simp[Lib.pow10Tab,List.map_map,Function.comp_def]
 · rename_i hh
   exfalso
   split at h0
   · rename_i cs e f hq;exact hh _ _ _ hq
   · simp at h0
def envT (e:EnvD):List UInt8:=match envB e with
 | true=>textE e.1 e.2.1 e.2.2
 | false=>[]
theorem envT_ok {e:EnvD} (h:envB e=true):envT e=textE e.1 e.2.1 e.2.2:=by unfold envT;rw[h]
theorem envT_no {e:EnvD} (h:envB e=false):envT e=[]:=by unfold envT;rw[h]
theorem seg_bd {sg:List (Int × Int)} (ha:sg.all segB=true) {x:Int × Int} (hx:x∈sg):(0≤x.1∧x.1≤65536)∧0≤x.2∧x.2≤65536:=by
 have h:=List.all_eq_true.1 ha x hx
 simp only[segB,Bool.and_eq_true] at h
 obtain⟨h1,h2⟩:=inR_iff.1 h.1
 obtain⟨h3,h4⟩:=inR_iff.1 h.2
 exact⟨⟨h1,by omega⟩,h3,h4⟩
theorem segsT_len {sg:List (Int × Int)} (ha:sg.all segB=true):(segsT sg).length≤13 * sg.length:=by
 induction sg with
 | nil=>simp[segsT]
 | cons x l ih =>
   simp only[List.all_cons,Bool.and_eq_true] at ha
   have h1:=ih ha.2
   obtain⟨⟨a1,a2⟩,a3,a4⟩:=seg_bd (sg:=[x]) (by simp[ha.1]) (List.mem_singleton.2 rfl)
   have b1:=itoa_len a1 a2
   have b2:=itoa_len a3 a4
   have e:(segsT (x::l)).length=1+(segT x).length+(segsT l).length:=by simp[segsT];omega
   have e2:(segT x).length=2+(Lib.itoa x.2).length+(Lib.itoa x.1).length:=by simp[segT];omega
   rw[e,e2,List.length_cons]
   omega
theorem text_len {st:Int} {sg:List (Int × Int)} (h1:0≤st) (h2:st≤65536) (ha:sg.all segB=true) (hl:sg.length≤8) (k:Nat):(Lib.itoa st++segsT (sg.take k)).length≤200:=by
 have e1:=itoa_len h1 h2
 have e2:(sg.take k).all segB=true:=List.all_eq_true.2 fun x hx=>List.all_eq_true.1 ha x (List.mem_of_mem_take hx)
 have e3:=segsT_len e2
 rw[List.length_append]
 have:(sg.take k).length≤8:=by rw[List.length_take];omega
 omega
theorem seg_at {sg:List (Int × Int)} (ha:sg.all segB=true) {k:Nat} (h:k < sg.length) (st:Int) :
 ((0≤(sg.getD k ((0,0):Int × Int)).1∧(sg.getD k ((0,0):Int × Int)).1≤65536)∧0≤(sg.getD k ((0,0):Int × Int)).2∧(sg.getD k ((0,0):Int × Int)).2≤65536) ∧
 (Lib.itoa (sg.getD k ((0,0):Int × Int)).1).length≤5∧(Lib.itoa (sg.getD k ((0,0):Int × Int)).2).length≤5 ∧
 Lib.itoa st++segsT (sg.take (k+1))=Lib.itoa st++segsT (sg.take k)++([32,62]++Lib.itoa (sg.getD k ((0,0):Int × Int)).2++[58]++Lib.itoa (sg.getD k ((0,0):Int × Int)).1):=by
 have hg:sg.getD k ((0,0):Int × Int)=sg[k]:=by simp[List.getD,h]
 have hb:=seg_bd ha (x:=sg.getD k (0,0)) (by rw[hg];exact List.getElem_mem h)
 refine⟨hb,itoa_len hb.1.1 hb.1.2,itoa_len hb.2.1 hb.2.2,?_⟩
 have ht:sg.take (k+1)=sg.take k++[sg.getD k (0,0)]:=by rw[hg,List.take_succ_eq_append_getElem h]
 rw[ht,segsT_snoc]
 simp[segT]
end Go.Proofs.YthhogcknkimijaaDoor
