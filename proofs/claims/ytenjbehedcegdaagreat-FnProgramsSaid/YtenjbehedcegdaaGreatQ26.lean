/-
  Texts of this claim, joined (part 26). No condition beyond those of the theorems.
-/
import Derived.Test.YtenjbehedcegdaaGreatQ25
import Derived.Test.YtenjbehedcegdaaGreatQ23
import Derived.Test.YtenjbehedcegdaaGreatQ08
import Derived.Test.YtenjbehedcegdaaGreatRows
import Derived.OwnWalk
import Derived.Lib.Hide
import Derived.Maps.RangeWalk
import Derived.WalkKit
namespace Go.Proofs.YtenjbehedcegdaaGreat
open Go.RowKit Go.Maps
set_option linter.unusedSimpArgs false
set_option linter.unusedVariables false
abbrev B8a:Ty:=.prod (.int .i64) (.prod (.int .i64) (.prod (.int .i64) (.prod (.int .i64) (.prod (.row 2 (.int .i64)) (.int .i64)))))
abbrev dP:=DataW Unit
noncomputable abbrev eI:Value→Option (dP × List MemPlace):=plainElem Tryz.prog 2
noncomputable abbrev eB:Value→Option (dP × List MemPlace):=plainElem Tryz.prog 4
theorem A0B:Keyed Tryz.prog 2:=int_keyed Tryz.underlying2
theorem zI0 (w:World):(zeroValue 2).run Tryz.prog w=.ok (.int .i64 0) w:=by kernel_rfl
theorem zB0 (w:World):(zeroValue 4).run Tryz.prog w=.ok (.bool false) w:=by kernel_rfl
theorem P5 {H:Type} {P:Program} (w:World) {ops:Array Oper} {rest:List Oper} {o:Oper} {a:Act} {Q:Exit→Act→World→Prop}
 (hg:Region.wanted o (yielded ops a.tmps)=true) (m x:Operand) (t:TypeId) (hop:o.op=Op.lookup t m x false)
 (k e:TypeId) (K:Keyed P k) (ht:P.underlying t=some (.map k e)) (he:P.underlying e=some .bool) (hz:(zeroValue e).run P w=.ok (.bool false) w) (b n:Nat) (D:DataW H)
 (hm:a.eval m=.map (some b)) (hown:w.ownsMap P k (plainElem P e) b n D) (key:Value) (kl:Lit) (hx:a.eval x=key) (hkey:Go.keyOf P k key=some kl)
 (hK:∀y:Bool,D.atKey kl (.lit (.bool false))=.lit (.bool y)→wpList P ops Q rest (a.put o.dst (.bool y)) w) :
 wpList P ops Q (o::rest) a w:=by
 refine wpList_step fun K' hK'=>?_
 obtain⟨y,hrun,hat⟩:=B0P hown K ht he hz hkey
 rw[hg,if_pos rfl];unfold Oper.wp
 simp[execOp,hop,hm,hx,hrun,Result.andThen]
 exact hK' _ _ (hK y hat)
theorem B4T {S:Nat→Prop} {w:World} {x:A1} {vs:List Value} (h:Rd S w B8a vs x):∃a n cap,vs=[.int .i64 x.1,.int .i64 x.2.1,.int .i64 x.2.2.1,.int .i64 (xN x),.slice a n cap,.int .i64 (xT x)]:=by
 obtain⟨u1,u2,rfl,h1,v1,v2,rfl,h2,w1,w2,rfl,h3,p1,p2,rfl,h4,q1,q2,rfl,h5,h6⟩:=h;simp only[Rd] at h1 h2 h3 h4 h5 h6
 subst h1 h2 h3 h4 h6
 obtain⟨a,cap,rfl,_⟩:=h5;exact⟨_,_,_,rfl⟩
structure HInv (code:List A1) (b1 b2 B:Nat) (w0 wr:World) (k:Nat) (c:List Int) (s:List Bool) (D1 D2:dP):Prop where
 hk:A0o code k=some (c,s)
 m1:MapI D1 c
 m2:MapT D2 s
 o1:wr.ownsMap Tryz.prog 2 eI b1 k D1
 o2:wr.ownsMap Tryz.prog 2 eB b2 k D2
 bel:Below B w0 wr
theorem C0G {x:Int} (h1:-9223372036854775808≤x) (h2:x≤9223372036854775807):(Lit.int .i64 x).wf=true:=by
 simp[Lit.wf,IntKind.min,IntKind.max,IntKind.bits,IntKind.signed];omega
theorem B0s {x:Int} (h:0≤x∧x≤23):Go.keyOf Tryz.prog 2 (.int .i64 x)=some (.int .i64 x):=keyOf_int_mk Tryz.underlying2 (C0G (by omega) (by omega))
structure RInv (c:List Int) (s:List Bool) (D1 D2:dP) (b1 b2 r n B:Nat) (w0 wq:World) (left:Lit→Bool) (cnt:Nat):Prop where
 rg:wq.ranges Tryz.prog 2 eI b1 r n D1 left cnt
 o2:wq.ownsMap Tryz.prog 2 eB b2 n D2
 bel:Below B w0 wq
 sub:∀x:Int,left (.int .i64 x)=true→Maps.has D1 (.int .i64 x)=true
 done:∀x:Int,Maps.has D1 (.int .i64 x)=true→left (.int .i64 x)=true∨¬(c.getD x.toNat 0=6∧s.getD x.toNat false=false)
theorem B1N {x y:Int} (h:x≠y):(Lit.int .i64 x).sameKey (.int .i64 y)=false:=by simp[Lit.sameKey,h]
set_option maxRecDepth 100000 in
set_option maxHeartbeats 4000000 in
theorem C03 (w:World) (v0 v1 uT uC uO:Value) (code:List A1) (hs:B1Y code) {S:Nat→Prop} (hN:Rd S w (.row 64 B8a) [uC] code) :
 Calls Tryz.prog 60 #[.agg #[v0,v1,uT,uC,uO]] w fun e w'=>e=.returned (.bool (A47 code))∧Below w.heap.size w w':=by
 have hmm:=@run_makeMap Tryz.prog
 obtain⟨hl,hall⟩:=hs;have HA:=Lib.hid hall;clear hall
 obtain⟨aN,cN,eN,hN1,hN2,hN3⟩:=hN;obtain rfl:uC=.slice aN code.length cN:=by simpa using eN
 have HN3:=Lib.hid hN3
 clear hN3 eN;obtain⟨E,hE⟩:∃E,E=A47 code:=⟨_,rfl⟩
 rw[←hE];have HE:=Lib.hid hE;clear hE
 go_enter Tryz.func60,Tryz.ntmps60
 go_wp2
 have hO1:Hid ((((w.alloc (.cells #[v0,v1,uT,.slice aN code.length cN,uO] 33)).alloc (.map #[] 0)).alloc (.map #[] 0)).ownsMap Tryz.prog 2 eI (w.heap.size+1) 0 (.map [])):=by
  have h:=(World.ownsMap_made (H:=Unit) (w.alloc (.cells #[v0,v1,uT,.slice aN code.length cN,uO] 33)) Tryz.prog 2 eI).alloc (.map #[] 0)
  unfold Hid;simpa only [World.size_alloc] using h
 have hO2:Hid ((((w.alloc (.cells #[v0,v1,uT,.slice aN code.length cN,uO] 33)).alloc (.map #[] 0)).alloc (.map #[] 0)).ownsMap Tryz.prog 2 eB (w.heap.size+2) 0 (.map [])):=by
  have h:=World.ownsMap_made (H:=Unit) ((w.alloc (.cells #[v0,v1,uT,.slice aN code.length cN,uO] 33)).alloc (.map #[] 0)) Tryz.prog 2 eB
  unfold Hid;simpa only [World.size_alloc] using h
 have hB0:Hid (Below w.heap.size w (((w.alloc (.cells #[v0,v1,uT,.slice aN code.length cN,uO] 33)).alloc (.map #[] 0)).alloc (.map #[] 0))) :=
  (((Below.refl _ _).alloc (Nat.le_refl _) _).alloc (by simp) _).alloc (by simp;omega) _
 go_loopw [14] (fun i wr=>∃k:Nat,k≤code.length∧i=.int .i64 k∧∃c s D1 D2,Hid (HInv code (w.heap.size+1) (w.heap.size+2) w.heap.size w wr k c s D1 D2)) (fun i _=>code.length - (intOf i).toNat)
 case atStart=>exact⟨0,Nat.zero_le _,rfl,_,_,_,_,⟨rfl,MapI.start,MapT.start,hO1.out,hO2.out,hB0.out⟩⟩
 case round =>
  obtain⟨k,hk,rfl,c,s,D1,D2,HI⟩:=hrel;clear hO1 hO2 hB0
  by_cases hlt:k < code.length
  · obtain⟨bN,oN,rfl,_,hc⟩:=HN3.out (by omega)
    obtain⟨vs,_,hv,hr⟩:=hc k hlt
    obtain⟨fa,fn,fc,rfl⟩:=B4T hr
    have e1:code[k]=code.getD k x0:=by simp[List.getD,hlt]
    rw[e1] at hv;have hx:=HA.out _ (C6 (d:=x0) hlt)
    clear hc hr e1;obtain⟨x,hxe⟩:∃x,x=code.getD k x0:=⟨_,rfl⟩
    rw[←hxe] at hv hx
    have HX:=Lib.hid hxe;clear hxe
    obtain⟨kd,ka,kb,ndI,fr,tt⟩:=x;obtain⟨hxr,hk1,hk2⟩:=(show (0≤ndI∧ndI≤23)∧1≤kd∧kd≤18 from hx)
    clear hx
    dsimp only at hv
    obtain⟨nd,rfl⟩:=Int.eq_ofNat_of_zero_le hxr.1
    have hbN:bN < w.heap.size:=World.block_lt_of_cell? _ _ (show w.cell? ⟨bN,oN+k * 6,none⟩=some (.int .i64 kd) by have:=hv 0 (by simp[Ty.w]);simpa [Ty.w] using this)
    have c0:wr.cell? ⟨bN,oN+k * 6,none⟩=some (.int .i64 kd):=(HI.out.bel.cell hbN).trans (by have:=hv 0 (by simp[Ty.w]);simpa [Ty.w] using this)
    have c1:wr.cell? ⟨bN,oN+k * 6+1,none⟩=some (.int .i64 ka):=(HI.out.bel.cell hbN).trans (by have:=hv 1 (by simp[Ty.w]);simpa [Ty.w] using this)
    have c2:wr.cell? ⟨bN,oN+k * 6+2,none⟩=some (.int .i64 kb):=(HI.out.bel.cell hbN).trans (by have:=hv 2 (by simp[Ty.w]);simpa [Ty.w] using this)
    have c3:wr.cell? ⟨bN,oN+k * 6+3,none⟩=some (.int .i64 (nd:Int)):=(HI.out.bel.cell hbN).trans (by have:=hv 3 (by simp[Ty.w]);simpa [Ty.w] using this)
    have c4:wr.cell? ⟨bN,oN+k * 6+4,none⟩=some (.slice fa fn fc):=(HI.out.bel.cell hbN).trans (by have:=hv 4 (by simp[Ty.w]);simpa [Ty.w] using this)
    have c5:wr.cell? ⟨bN,oN+k * 6+5,none⟩=some (.int .i64 tt):=(HI.out.bel.cell hbN).trans (by have:=hv 5 (by simp[Ty.w]);simpa [Ty.w] using this)
    clear hv;have hwk:(Lit.int .i64 kd).wf=true:=C0G (by omega) (by omega)
    have hkey:=B0s hxr
    have hn24:nd < 24:=by omega
    have hsz:=HI.out.bel.size
    obtain⟨cv,hcv⟩:∃v,v=c.getD nd 0:=⟨_,rfl⟩
    have HC:=Lib.hid hcv;clear hcv
    by_cases h18:kd=18
    · subst h18
      by_cases h6:cv=6
      · subst h6;obtain⟨sv,hsv⟩:∃v,s.getD nd false=v:=⟨_,rfl⟩
        have HS:=Lib.hid hsv;clear hsv
        cases sv with
        | true =>
          go_wp2_with (first|(at_lookup;refine wpList_lookup_own_int _ rfl _ _ 119 rfl 2 2 .i64 A0B Tryz.underlying119 Tryz.underlying2 (zI0 _) (w.heap.size+1) k D1 rfl (HI.out.o1.alloc _) _ _ rfl hkey ?_;intro y hat _;have hy:y=6:=(HI.out.m1.look hxr hat).trans HC.out.symm;rw[hy];clear hy hat)|(at_lookup;refine P5 _ (by first|rfl|(simp[go_sem];done)) _ _ 120 rfl 2 4 A0B Tryz.underlying120 Tryz.underlying4 (zB0 _) (w.heap.size+2) k D2 rfl (HI.out.o2.alloc _) _ _ rfl hkey ?_;intro z hat2;obtain rfl:z=true:=(HI.out.m2.look hxr hat2).trans HS.out;clear hat2)|go_in)
          go_ret
          exact⟨congrArg (fun b=>Ending.returned (.bool b)) (show E=false from HE.out.trans (B0O HI.out.hk hlt (by rw[←HX.out]) (by rw[←HX.out];rintro⟨_,e⟩;exact absurd (HS.out.symm.trans e) (by decide)))).symm,HI.out.bel.alloc hsz _⟩
        | false =>
          go_wp2_with (first|(at_lookup;refine wpList_lookup_own_int _ rfl _ _ 119 rfl 2 2 .i64 A0B Tryz.underlying119 Tryz.underlying2 (zI0 _) (w.heap.size+1) k D1 rfl (HI.out.o1.alloc _) _ _ rfl hkey ?_;intro y hat _;have hy:y=6:=(HI.out.m1.look hxr hat).trans HC.out.symm;rw[hy];clear hy hat)|(at_lookup;refine P5 _ (by first|rfl|(simp[go_sem];done)) _ _ 120 rfl 2 4 A0B Tryz.underlying120 Tryz.underlying4 (zB0 _) (w.heap.size+2) k D2 rfl (HI.out.o2.alloc _) _ _ rfl hkey ?_;intro z hat2;obtain rfl:z=false:=(HI.out.m2.look hxr hat2).trans HS.out;clear hat2)|(at_mapUpdate;refine wpList_mapUpdate_own _ rfl _ _ _ 120 rfl 2 4 A0B Tryz.underlying120 _ (w.heap.size+2) k D2 rfl (HI.out.o2.alloc _) (by unfold maxLen;omega) _ _ _ rfl rfl hkey _ [] (plainElem_bool Tryz.underlying4 true) ?_;intro w1 hown1 hgrow1)|go_in)
          have HG:=Lib.hid hgrow1
          have HO:=Lib.hid hown1
          clear hgrow1 hown1
          go_roundw
          case rel=>exact⟨k+1,by omega,by go_num,c,s.set nd true,D1,_,⟨by have h:=B3e HI.out.hk (by rw[←HX.out]) (by rw[←HX.out];exact HC.out.symm) (by rw[←HX.out];exact HS.out);rw[←HX.out] at h;exact h,HI.out.m1,HI.out.m2.put hn24 true,((HI.out.o1.alloc _).kept HG.out (by simp)).mono (by omega),HO.out,(HI.out.bel.alloc hsz _).grown HG.out (HI.out.bel.alloc hsz _).size (fun j hj=>by cases hj;omega)⟩⟩
          case measure=>simp[intOf];omega
      · have e6:(cv == 6)=false:=beq_false_of_ne h6
        go_wp2_with (first|(at_lookup;refine wpList_lookup_own_int _ rfl _ _ 119 rfl 2 2 .i64 A0B Tryz.underlying119 Tryz.underlying2 (zI0 _) (w.heap.size+1) k D1 rfl (HI.out.o1.alloc _) _ _ rfl hkey ?_;intro y hat _;have hy:y=cv:=(HI.out.m1.look hxr hat).trans HC.out.symm;rw[hy];clear hy hat)|go_in)
        go_ret
        exact⟨congrArg (fun b=>Ending.returned (.bool b)) (show E=false from HE.out.trans (B0O HI.out.hk hlt (by rw[←HX.out]) (by rw[←HX.out];rintro⟨e,_⟩;exact h6 (HC.out.trans e)))).symm,HI.out.bel.alloc hsz _⟩
    · have e18:(kd == 18)=false:=beq_false_of_ne h18
      by_cases h0:cv=0
      · subst h0
        go_wp2_with (first|(at_lookup;refine wpList_lookup_own_int _ rfl _ _ 119 rfl 2 2 .i64 A0B Tryz.underlying119 Tryz.underlying2 (zI0 _) (w.heap.size+1) k D1 rfl (HI.out.o1.alloc _) _ _ rfl hkey ?_;intro y hat _;have hy:y=0:=(HI.out.m1.look hxr hat).trans HC.out.symm;rw[hy];clear hy hat)|(at_mapUpdate;refine wpList_mapUpdate_own _ rfl _ _ _ 119 rfl 2 2 A0B Tryz.underlying119 _ (w.heap.size+1) k D1 rfl (HI.out.o1.alloc _) (by unfold maxLen;omega) _ _ _ rfl rfl hkey _ [] (plainElem_int Tryz.underlying2 hwk) ?_;intro w1 hown1 hgrow1)|go_in)
        have HG:=Lib.hid hgrow1
        have HO:=Lib.hid hown1
        clear hgrow1 hown1
        go_roundw
        case rel=>exact⟨k+1,by omega,by go_num,c.set nd kd,s,_,D2,⟨by have h:=B66 HI.out.hk (by rw[←HX.out];exact h18) (by rw[←HX.out];exact HC.out.symm);rw[←HX.out] at h;exact h,HI.out.m1.put hn24 (by omega),HI.out.m2,HO.out,((HI.out.o2.alloc _).kept HG.out (by simp)).mono (by omega),(HI.out.bel.alloc hsz _).grown HG.out (HI.out.bel.alloc hsz _).size (fun j hj=>by cases hj;omega)⟩⟩
        case measure=>simp[intOf];omega
      · have e0:(cv == 0)=false:=beq_false_of_ne h0
        go_wp2_with (first|(at_lookup;refine wpList_lookup_own_int _ rfl _ _ 119 rfl 2 2 .i64 A0B Tryz.underlying119 Tryz.underlying2 (zI0 _) (w.heap.size+1) k D1 rfl (HI.out.o1.alloc _) _ _ rfl hkey ?_;intro y hat _;have hy:y=cv:=(HI.out.m1.look hxr hat).trans HC.out.symm;rw[hy];clear hy hat)|go_in)
        go_ret
        exact⟨congrArg (fun b=>Ending.returned (.bool b)) (show E=false from HE.out.trans (B3o HI.out.hk hlt (by rw[←HX.out];exact h18) (by rw[←HX.out];exact fun e=>h0 (HC.out.trans e)))).symm,HI.out.bel.alloc hsz _⟩
  · have hke:k=code.length:=by omega
    have HEE:=Lib.hid (HE.out.trans (B7L HI.out.hk hke))
    clear hke;have hb2:=HI.out.o2.lt
    have hsz:=HI.out.bel.size
    go_wp2_with (first|(at_range;refine wpList_range_own _ rfl _ 119 rfl 2 2 A0B Tryz.underlying119 _ (w.heap.size+1) k D1 rfl HI.out.o1 ?_;intro w0 hrg0 hg0 hs0)|go_in)
    have HRG:=Lib.hid hrg0
    have HG:=Lib.hid hg0
    clear hrg0 hg0 hs0;generalize hr0:wr.heap.size=r0 at HRG hb2 hsz ⊢
    go_frame
    go_loopw [7,8] (fun _ _ wq=>∃left cnt,Hid (RInv c s D1 D2 (w.heap.size+1) (w.heap.size+2) r0 k w.heap.size w wq left cnt)) (fun _ _ wq=>wq.rangeLeft (w.heap.size+1) r0)
    case atStart=>exact⟨_,_,⟨HRG.out,HI.out.o2.kept HG.out (by simp),HI.out.bel.grown HG.out HI.out.bel.size (fun j hj=>by cases hj),fun _ h=>h,fun _ h=>.inl h⟩⟩
    case round =>
     obtain⟨left,cnt,HR⟩:=hrel
     go_wp2_with (first|(at_next;refine wpList_next_ranges_ii _ rfl _ rfl 2 2 .i64 .i64 A0B Tryz.underlying2 Tryz.underlying2 (w.heap.size+1) r0 k _ _ _ rfl HR.out.rg ?_ ?_)|go_in)
     · intro _ hl0
       have HL:=Lib.hid hl0;clear hl0
       go_wp2
       go_ret
       exact⟨congrArg (fun b=>Ending.returned (.bool b)) (show E=true from HEE.out.trans (B99 HI.out.m1 (fun x h=>(HR.out.done x h).resolve_left (by rw[HL.out];simp)))).symm,HR.out.bel⟩
     · intro x y wx cnt1 hwx _ hlx hat hrg1 hlt1 hg1 hs1 hen
       have hhas:=HR.out.sub x hlx
       have hxr:=HI.out.m1.kr x hhas
       have hy:=HI.out.m1.look hxr (hat _)
       have HY:=Lib.hid hy;clear hy
       have HG1:=Lib.hid hg1
       have HR1:=Lib.hid hrg1
       have HT1:=Lib.hid hlt1
       have O2:=Lib.hid (HR.out.o2.kept hg1 (by simp;omega))
       have HB:=Lib.hid (HR.out.bel.grown hg1 HR.out.bel.size (fun j hj=>by cases hj;omega))
       clear hhas hat hg1 hrg1 hs1 hlx hlt1 hwx;have hkey:=B0s hxr
       obtain⟨sv,hsv⟩:∃v,s.getD x.toNat false=v:=⟨_,rfl⟩
       have HS:=Lib.hid hsv;clear hsv
       have HD:¬(c.getD x.toNat 0=6∧s.getD x.toNat false=false)→Hid (RInv c s D1 D2 (w.heap.size+1) (w.heap.size+2) r0 k w.heap.size w wx (fun z=>left z && !z.sameKey (.int .i64 x)) cnt1):=fun hn =>
        ⟨HR1.out,O2.out,HB.out,fun x' h=>HR.out.sub x' (by simp only[Bool.and_eq_true] at h;exact h.1),fun x' h=>by
         by_cases e:x'=x
         · subst e;exact .inr hn
         · rcases HR.out.done x' h with h1|h1
           · exact .inl (by rw[h1,B1N e];rfl)
           · exact .inr h1⟩
       have HDD:=Lib.hid HD;clear HD
       by_cases h6:y=6
       · subst h6;cases sv with
         | true =>
           go_wp2_with (first|(at_lookup;refine P5 _ (by first|rfl|(simp[go_sem];done)) _ _ 120 rfl 2 4 A0B Tryz.underlying120 Tryz.underlying4 (zB0 _) (w.heap.size+2) k D2 rfl O2.out _ _ rfl hkey ?_;intro z hat2;obtain rfl:z=true:=(HI.out.m2.look hxr hat2).trans HS.out;clear hat2)|go_in)
           go_roundw
           case rel=>exact⟨_,_,HDD.out (by rintro⟨_,e⟩;exact absurd (HS.out.symm.trans e) (by decide))⟩
           case measure=>rw[HR1.out.left_eq,HR.out.rg.left_eq];exact HT1.out
         | false =>
           go_wp2_with (first|(at_lookup;refine P5 _ (by first|rfl|(simp[go_sem];done)) _ _ 120 rfl 2 4 A0B Tryz.underlying120 Tryz.underlying4 (zB0 _) (w.heap.size+2) k D2 rfl O2.out _ _ rfl hkey ?_;intro z hat2;obtain rfl:z=false:=(HI.out.m2.look hxr hat2).trans HS.out;clear hat2)|go_in)
           go_ret
           exact⟨congrArg (fun b=>Ending.returned (.bool b)) (show E=false from HEE.out.trans (B9R hxr HY.out.symm HS.out)).symm,HB.out⟩
       · have e6:(y == 6)=false:=beq_false_of_ne h6
         go_wp2
         go_roundw
         case rel=>exact⟨_,_,HDD.out (by rintro⟨e,_⟩;exact h6 (HY.out.trans e))⟩
         case measure=>rw[HR1.out.left_eq,HR.out.rg.left_eq];exact HT1.out
end Go.Proofs.YtenjbehedcegdaaGreat
