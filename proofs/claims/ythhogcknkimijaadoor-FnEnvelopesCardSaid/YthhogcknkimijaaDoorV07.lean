/-
  Texts of this claim, joined (part 7). No condition beyond those of the theorems.
-/
import Derived.Test.YthhogcknkimijaaDoorV03
import Derived.Test.YthhogcknkimijaaDoorV06
namespace Go.Proofs.YthhogcknkimijaaDoor
open Go.RowKit
set_option linter.unusedSimpArgs false
set_option linter.unusedVariables false
theorem Keeps.of_below {R:Rz} {w w':World} (h:Below w.heap.size w w'):Keeps R w R w':=⟨h.os,h.tape,h.output,h.size,fun b hb _=>⟨h.block b hb,rfl⟩⟩
theorem obsOk_nil (R:Rz) (w:World):obsOk R w []:=fun p hp=>by cases hp
theorem arr_of {vs:Array Value} {l:List Value} (h:vs.toList=l):vs=l.toArray:=by subst h;simp
section
variable {R:Rz} {w:World} {l:List AV} {us:List Value}
theorem vrt_sc {v:Value} (h:VRt R w (.c (.sc v)::l) us):∃us',us=v::us'∧VRt R w l us':=by
 simp only[VRt] at h
 obtain⟨u,us',rfl,h1,h2⟩:=h
 simp only[VR,VRc] at h1
 subst h1
 exact⟨us',rfl,h2⟩
theorem vrt_nil (h:VRt R w [] us):us=[]:=by simpa only [VRt] using h
theorem vr_sc (v:Value):VR R w (.c (.sc v)) v:=by simp only[VR];rfl
end
end Go.Proofs.YthhogcknkimijaaDoor
