/-
  Texts of this claim, joined (part 20). No condition beyond those of the theorems.
-/
import Derived.Test.YtenjbehedcegdaaDoorP16
import Derived.Test.YtenjbehedcegdaaDoorP18
import Derived.Test.YtenjbehedcegdaaDoorP19
import Derived.Test.YtenjbehedcegdaaDoorRows
import Derived.Test.YtenjbehedcegdaaDoorP02
import Derived.Deep.QuietTactic
import Derived.BigQuiet
import Derived.Lib.Hide
import Derived.Test.YtenjbehedcegdaaDoorP05
import Derived.Test.YtenjbehedcegdaaDoorP13
import Derived.Lib.LaidTab
import Derived.Sort.Grow
import Derived.Test.YtenjbehedcegdaaDoorP15
namespace Go.Proofs.YtenjbehedcegdaaDoor
open Go.RowKit
set_option linter.unusedSimpArgs false
set_option linter.unusedVariables false
theorem join_w {R:Rz} {w:World} {e:TypeId} (W:List ByteArray) (c:ByteArray) {u:Value} (h:Rd (okS R []) w (.row e .str) [u] W) (h1:W.length≤1000) (h2:(joinS W c).length≤1000000) :
 Calls Tryd.prog 56 #[u,.string c] w fun e w'=>e=.returned (.string (bs (joinS W c)))∧Below w.heap.size w w':=by
 obtain⟨a,cap,hu,k1,k2,k3⟩:=h
 obtain rfl:u=.slice a W.length cap:=by simpa using hu
 by_cases h0:W.length=0
 · obtain rfl:=List.eq_nil_of_length_eq_zero h0
   refine(Tryd.strings_Join_none a cap c w).mono fun _ _ ⟨e1,e2⟩=>?_
   subst e2
   exact⟨by rw[e1];rfl,Below.refl _ _⟩
 · obtain⟨b,o,rfl,hb,hc⟩:=k3 (by omega)
   have hcell:∀(j:Nat) x,W[j]?=some x→w.cell? ⟨b,o+j,none⟩=some (.string x):=fun j x hj=>by
    obtain⟨hlt,he⟩:=List.getElem?_eq_some_iff.1 hj
    obtain⟨vs,hvl,hv,hr⟩:=hc j hlt
    have hr:vs=[.string W[j]]:=hr
    have:=hv 0 (by simp[Ty.w])
    rw[hr,he] at this
    simpa [Ty.w] using this
   have hlt:b < w.heap.size:=World.block_lt_of_cell? w _ (hcell 0 (W[0]'(by omega)) (by simp))
   refine(Tryd.strings_Join b o cap W c w hcell hlt (by omega) k1 (Nat.le_trans h2 (by decide))).mono fun _ _ ⟨e1,e2⟩=>?_
   exact⟨e1,e2⟩
theorem pure_liftG {P:Program} {f:FuncId} {k:Con}
 (h:∀x,k.c x→∀(R:Rz) (w:World) (vs:Array Value),Glob R w→VRt R w (avs k.ps x) vs.toList→Calls P f vs w fun e w'=>∃v,e=.returned v∧VR R w' (outAll inN [] k.rs (k.r x)) v∧obsOk R w' (outOs inN [] 0 k.rs (k.r x))∧Below w.heap.size w w') :
 PureT P f k:=fun x hc R w vs hg hv=>(h x hc R w vs hg hv).mono fun _ _ ⟨v,he,h1,h2,hb⟩=>⟨v,R,he,h1,h2,.of_below hb⟩
theorem below_grownS (w:World) (k:Nat) (os:Array Obj):Below w.heap.size w (Sort.grow (w.drewN k) os) :=
 ⟨rfl,rfl,rfl,by simp[Sort.grow,World.drewN],fun b hb=>by simp[Sort.grow,World.drewN,Array.getElem?_append,hb]⟩
theorem tab10 {R : Rz} {w : World} (h : Glob R w) : Lib.TabIs Tryd.prog w "internal/strconv.uint64pow10" .u64 Lib.pow10Tab := by
 obtain⟨_,h2,h3⟩:=h (_:Nat × _) (List.mem_cons_self)
 have hc:∀j,w.cell? ⟨0,j,none⟩=((List.range 20).map fun i=>Value.int .u64 ((10 ^ i:Nat):Int))[j]?:=h3
 unfold Lib.TabIs World.var?
 rw [show Tryd.prog.globalNamed "internal/strconv.uint64pow10" = some 0 by kernel_rfl]
 simp only[Option.bind_some]
 unfold World.cell? at hc
 have h0:=hc 0
 split
 · rename_i cs e f hh
   simp only[hh] at hc
   congr 1
   apply Array.ext'
   apply List.ext_getElem?
   intro j
   have:=hc j
   simp only[Option.isSome_none,Bool.false_eq_true,if_false] at this
   rw[Array.getElem?_toList,this]
   simp[Lib.pow10Tab,List.map_map,Function.comp_def]
 · rename_i hh
   exfalso
   split at h0
   · rename_i cs e f hq;exact hh _ _ _ hq
   · simp at h0
structure RunOk (g:ProgD) (st:RunSt):Prop where
 rl:st.1.length=g.2.1.toNat
 rs:smps st.1=true
 sl:st.2.length=24
 ss:∀k,k < g.2.2.2.1.length→¬(g.2.2.2.1.getD k x0).1=18→(st.2.getD (xN (g.2.2.2.1.getD k x0)).toNat []).length=(startV (nodeX (g.2.2.2.1.getD k x0))).length∧smps (st.2.getD (xN (g.2.2.2.1.getD k x0)).toNat [])=true
section
variable {g:ProgD} (hG:ProgOk g)
include hG
section
variable {fr:List Int} (hfl:(fr.length:Int)=g.1) (hfs:smps fr=true) {st:RunSt} (h:RunOk g st) {k:Nat} (hk:k < g.2.2.2.1.length)
include hfs h hk
end
end
end Go.Proofs.YtenjbehedcegdaaDoor
