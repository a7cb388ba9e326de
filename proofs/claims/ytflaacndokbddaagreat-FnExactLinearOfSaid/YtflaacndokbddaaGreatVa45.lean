/-
  Texts of this claim, joined (part 45). No condition beyond those of the theorems.
-/
import Derived.Test.YtflaacndokbddaaGreatVa37
import Derived.Test.YtflaacndokbddaaGreatVa40
import Derived.Test.YtflaacndokbddaaGreatVa44
import Derived.Test.YtflaacndokbddaaGreatVa35
namespace Go.Proofs.YtflaacndokbddaaGreat
open Go.RowKit
set_option linter.unusedSimpArgs false
set_option linter.unusedVariables false
set_option maxRecDepth 100000
set_option maxHeartbeats 4000000
def T_mHm50 : Tab := fun f => match T_colsRows f with
 | some k => some k
 | none => T_frame f
theorem T_mHm50_ok : TabOk Tryz.prog T_mHm50 := tabM T_colsRows_ok T_frame_ok
attribute [go_sem] T_mHm50 T0
def T_mHm51 : Tab := fun f => match T_mHm50 f with
 | some k => some k
 | none => T_playerOf f
theorem T_mHm51_ok : TabOk Tryz.prog T_mHm51 := tabM T_mHm50_ok T_playerOf_ok
attribute [go_sem] T_mHm51 T0
def K_probe : GCon where
  ps := [.val ((.row 2 (.int .i64))), .val ((.row 2 (.int .i64))), .po 0]
  os := [.box [.rd ((.prod (.int .i64) (.prod (.row 26 (.row 2 (.int .i64))) (.prod (.row 90 (.prod (.int .i64) (.prod (.int .i64) (.prod (.int .i64) (.row 2 (.int .i64)))))) (.row 2 (.int .i64))))))]]
  c := fun x => patchB x.2.1.1 = true ∧ x.1.1.length = cellN x.2.1.1.2.2.1 ∧ smps x.1.1 = true ∧ (x.1.2.1.length : Int) = x.2.1.1.1 ∧ smps x.1.2.1 = true
  r := fun _ => .tup [.c (.ow 10), .c (.ow 11)]
  o := fun x => [(10, .row 2 (.int .i64) ((colM x.2.1.1 x.1.1 x.1.2.1).1) []), (11, .row 2 (.int .i64) ((colM x.2.1.1 x.1.1 x.1.2.1).2) []), (30, .box [.sc (.int .i64 (x.2.1.1.1)), .rd [] 26 ((.row 2 (.int .i64))) (x.2.1.1.2.1), .rd [] 90 ((.prod (.int .i64) (.prod (.int .i64) (.prod (.int .i64) (.row 2 (.int .i64)))))) (x.2.1.1.2.2.1), .rd [] 2 (.int .i64) (x.2.1.1.2.2.2)])]
  ok := by
    rintro ⟨⟨(cs : List Int), (ff : List Int), _⟩, ⟨⟨⟨(pi : Int), (ts : List (List Int)), (ns : List NodeD), (os : List Int)⟩, _⟩, _⟩⟩
    exact ⟨rfl, rfl, by decide⟩
theorem probe_ok : GenT Tryz.prog 131 K_probe := by
  refine gen_of_body Tryz.func131 rfl ?_
  have hres : Tryz.f131.results.toList = [.tmp 5, .tmp 6] := rfl
  rintro ⟨⟨(cs : List Int), (ff : List Int), _⟩, ⟨⟨⟨(pi : Int), (ts : List (List Int)), (ns : List NodeD), (os : List Int)⟩, _⟩, _⟩⟩ hc hL hO
  simp only [K_probe, go_sem] at hL
  simp only [K_probe, go_sem] at hO
  simp only [K_probe, St.init, St.initG, Tryz.ntmps131, go_sem] 
  obtain ⟨hP, hcl, hcs, hfl, hff⟩ := (show patchB (pi, ts, ns, os) = true ∧ cs.length = cellN ns ∧ smps cs = true ∧ (ff.length : Int) = pi ∧ smps ff = true from hc)
  have hF := (patchB_parts hP).1
  have hn24 : ns.length ≤ 24 := (formedB_parts hF).1
  have hS : StOk (pi, ts, ns, os) (setS ns cs) := setS_ok (q := (pi, ts, ns, os)) hcl hcs
  have hfs : formedB (pi, ts, ns, os) = true ∧ cs.length = cellN ns := ⟨hF, hcl⟩
  obtain ⟨cc, hcc⟩ : ∃ cc, setS ns cs = cc := ⟨_, rfl⟩
  rw [hcc] at hS
  have hvo := valsL_ok' (p := (pi, ts, ns, os)) (s := cc) (fr := ff) hF hS hff
  have hos : os.length ≤ 1000 ∧ idxs (valsL (pi, ts, ns, os) cc ff).length os = true := ⟨by have := (formedB_parts hF).2.1; show os.length ≤ 1000; have h : os.length ≤ 4 := this; omega, by rw [hvo.1]; exact (formedB_parts hF).2.2.2.2.2.1⟩
  have hpl : playL (pi, ts, ns, os) (List.replicate ns.length 0) cc ff = (valsL (pi, ts, ns, os) cc ff, nextL (pi, ts, ns, os) cc ff (valsL (pi, ts, ns, os) cc ff)) := play_eq (p := (pi, ts, ns, os)) hP (by simp) hS.1
  have hnl : (nextL (pi, ts, ns, os) cc ff (valsL (pi, ts, ns, os) cc ff)).flatten.length ≤ 1000000 := by have h := (colM_len hF hcl hcs hff).1; have h2 := cellN_384 hF; rw [show (nextL (pi, ts, ns, os) cc ff (valsL (pi, ts, ns, os) cc ff)).flatten.length = (colM (pi, ts, ns, os) cs ff).1.length by unfold colM; rw [show setS (pi, ts, ns, os).2.2.1 cs = cc from hcc], h]; omega
  have hcm : colM (pi, ts, ns, os) cs ff = ((nextL (pi, ts, ns, os) cc ff (valsL (pi, ts, ns, os) cc ff)).flatten, outsL (pi, ts, ns, os) (valsL (pi, ts, ns, os) cc ff)) := by unfold colM; rw [show setS (pi, ts, ns, os).2.2.1 cs = cc from hcc]
  refine oS fun K1 hK1 => ?_
  refine oW T_mHm51_ok ?_
  simp only [go_sem]
  refine hK1 _ ?_
  refine oS fun K2 hK2 => ?_
  refine oR T_mHm51_ok
    [[], [], [], [1, 2], [0, 1, 2, 3], [0, 1, 2, 3, 4]]
    [[276, 277, 278, 279, 280, 281, 282, 283, 284, 285, 286, 287, 288, 289, 290, 291], [], [], [], [], []]
    [[], [], [], [276, 277, 278, 279, 280, 281, 282, 283, 284, 285, 286, 287, 288, 289, 290, 291], [], []] (by kernel_rfl) (by kernel_rfl) (adrawR_ok (acc := []) ?_)
  simp (maxSteps := 2000000) only [List.nodup_cons, List.nodup_nil, List.not_mem_nil, not_false_eq_true, hcc, go_sem]
  repeat (with_reducible first | refine oD ?_ | refine And.intro (by first | exact hfs | exact ⟨hP, hS⟩) ?_)
  refine hK2 _ ?_
  refine oS fun K3 hK3 => ?_
  refine oW T_mHm51_ok ?_
  simp only [hpl, go_sem]
  repeat (with_reducible first | refine oA ?_ | refine And.intro (by first | exact ⟨hP, rfl, vals0_ok (pi, ts, ns, os), hS, hfl, hff⟩ | exact ⟨hP, vals0_ok (pi, ts, ns, os), hS, hfl, hff⟩) ?_)
  refine hK3 _ ?_
  refine oS fun K4 hK4 => ?_
  refine oW T_mHm51_ok ?_
  simp (maxSteps := 2000000) only [go_sem]
  repeat (with_reducible first | refine oA ?_ | refine And.intro (by first | exact hnl | exact hos) ?_)
  refine hK4 _ ?_
  refine AWP_ret ?_
  simp only [hres, go_sem]
  first
   | exact oG
   | refine ⟨oG, ?_⟩
     rw [hcm]
     (repeat' refine And.intro ?_ ?_) <;> first | rfl | (congr 1; done)
def T_probe : Tab := fun f => if f = 131 then some (.g K_probe) else T_mHm51 f
theorem T_probe_ok : TabOk Tryz.prog T_probe := tabG probe_ok (fnOk_of Tryz.func131 rfl (by decide)) T_mHm51_ok
attribute [go_sem] T_probe K_probe
end Go.Proofs.YtflaacndokbddaaGreat
namespace Go.Proofs.YtflaacndokbddaaGreat
open Go.RowKit
set_option linter.unusedSimpArgs false
set_option linter.unusedVariables false
theorem trim_all {p : PatchD} (hP : patchB p = true) {c : Nat} (hc : c < (needF p).length) : (marksF (trimP p)).getD c false = true := by
 have hF := (patchB_parts hP).1
 have hT := (patchB_parts (trim_patch hP)).1
 have hby : ∀ j, j < (needF p).length → (byT p).getD ((needF p).getD j 0).toNat 0 = (j : Int) := fun j hj => byL_at (fun j hj => need_rng j hj) (fun i j hi hj e => need_inj i j hi hj e) _ (Nat.le_refl _) j hj
 have hlen : (trimP p).2.2.1.length = (needF p).length := by rw [trim_map, List.length_map]
 have key : ∀ i, (marksF p).getD i false = true → (marksF p).getD i false = true ∧ ∀ c, c < (needF p).length → ((needF p).getD c 0).toNat = i → (marksF (trimP p)).getD c false = true := by
  intro i hi
  refine marks_least hF (fun i => (marksF p).getD i false = true ∧ ∀ c, c < (needF p).length → ((needF p).getD c 0).toNat = i → (marksF (trimP p)).getD c false = true) (fun i hi h y hy => ?_) (fun y hy => ?_) i hi
  · obtain ⟨h1, h2⟩ := h
    refine ⟨marks_from hF hi h1 hy, fun c' hc' e => ?_⟩
    obtain ⟨c, hcl, hce⟩ : ∃ c, c < (needF p).length ∧ (needF p).getD c 0 = (i : Int) := by
     have : (i : Int) ∈ needF p := need_mem.2 ⟨i, hi, h1, rfl⟩
     obtain ⟨c, hcl, hce⟩ := List.mem_iff_getElem.1 this
     exact ⟨c, hcl, by simp [List.getD, hcl, hce]⟩
    have h3 := h2 c hcl (by rw [hce]; simp)
    have hnd : (trimP p).2.2.1.getD c n0 = mrgX (byT p) (p.2.2.1.getD i n0) := by
     rw [trim_map]
     simp only [List.getD, List.getElem?_map, List.getElem?_eq_getElem hcl, Option.map_some, Option.getD_some]
     have : (needF p)[c] = (i : Int) := by rw [← hce]; simp [List.getD, hcl]
     rw [this]; simp
    have hmem : (byT p).getD y.toNat 0 ∈ ((trimP p).2.2.1.getD c n0).2.2.2 := by
     rw [hnd]; exact List.mem_map.2 ⟨y, hy, rfl⟩
    have h4 := marks_from hT (show c < (trimP p).2.2.1.length by omega) h3 hmem
    rw [← e, hby c' hc'] at h4
    simpa using h4
  · refine ⟨marks_out hF hy, fun c' hc' e => ?_⟩
    have hmem : (byT p).getD y.toNat 0 ∈ (trimP p).2.2.2 := List.mem_map.2 ⟨y, hy, rfl⟩
    have h4 := marks_out hT hmem
    rw [← e, hby c' hc'] at h4
    simpa using h4
 obtain ⟨i, h1, h2, h3⟩ := need_mem.1 (getD_mem (d := (0 : Int)) hc)
 exact (key i h2).2 c hc (by rw [h3]; simp)
theorem need_trim {p : PatchD} (hP : patchB p = true) : needF (trimP p) = (List.range (trimP p).2.2.1.length).map fun (i : Nat) => (i : Int) := by
 have hlen : (trimP p).2.2.1.length = (needF p).length := by rw [trim_map, List.length_map]
 unfold needF needT
 congr 1
 refine List.filter_eq_self.2 fun i hi => ?_
 exact trim_all hP (by rw [← hlen]; exact List.mem_range.1 hi)
theorem cntT_self {p : PatchD} (hP : patchB p = true) : cntT (trimP p) = cellN (trimP p).2.2.1 := by
 unfold cntT cntK
 rw [List.take_length, need_trim hP, List.map_map]
 unfold cellN
 congr 1
 refine List.ext_getElem (by simp) fun i h1 h2 => ?_
 have hi : i < (trimP p).2.2.1.length := by simpa using h2
 simp [List.getD, hi]
theorem cols_mat (f : Nat → List Int) (rows wd : Nat) : (List.range rows).map (rowC ((List.range wd).map f)) = matC f rows wd := by
 unfold matC rowC
 refine List.map_congr_left fun i _ => ?_
 rw [List.map_map]; rfl
theorem cols_len {f : Nat → List Int} {rows wd : Nat} (h : ∀ j, (f j).length = rows) : ∀ j, j < ((List.range wd).map f).length → (((List.range wd).map f).getD j []).length = rows := by
 intro j hj
 have hj' : j < wd := by simpa using hj
 simp [List.getD, hj', h]
theorem stC_len {q : PatchD} (hF : formedB q = true) (j : Nat) : (stC q j).1.length = cellN q.2.2.1 ∧ (stC q j).2.length = q.2.2.2.length := colM_len hF (unitL_ok _ _).1 (unitL_ok _ _).2 (zerL_ok _).2
theorem inC_len {q : PatchD} (hF : formedB q = true) (j : Nat) : (inC q j).1.length = cellN q.2.2.1 ∧ (inC q j).2.length = q.2.2.2.length := colM_len hF (zerL_ok _).1 (zerL_ok _).2 (unitL_ok _ _).2
def linLike (ps : List PatchD) (p : PatchD) : Bool := linB p && decide (p.1 = (ps.getD 0 ((0, [], [], []) : PatchD)).1) && decide (p.2.2.2.length = (ps.getD 0 ((0, [], [], []) : PatchD)).2.2.2.length)
def codeL (ps : List PatchD) : Int := match ps.all patchB with
 | false => 1
 | true => match ps.all (linLike ps) with
   | false => 6
   | true => match ps.all (fun p => decide (cntT p ≤ 24)) with
     | false => 5
     | true => 0
theorem codeL_1 {ps : List PatchD} (h : ps.all patchB = false) : codeL ps = 1 := by unfold codeL; rw [h]
theorem codeL_6 {ps : List PatchD} (h : ps.all patchB = true) (k : ps.all (linLike ps) = false) : codeL ps = 6 := by unfold codeL; rw [h, k]
theorem codeL_5 {ps : List PatchD} (h : ps.all patchB = true) (k : ps.all (linLike ps) = true) (l : ps.all (fun p => decide (cntT p ≤ 24)) = false) : codeL ps = 5 := by unfold codeL; rw [h, k, l]
theorem codeL_0 {ps : List PatchD} (h : ps.all patchB = true) (k : ps.all (linLike ps) = true) (l : ps.all (fun p => decide (cntT p ≤ 24)) = true) : codeL ps = 0 := by unfold codeL; rw [h, k, l]
theorem codeL_one (p : PatchD) : codeL [p] = linCode p := by
 unfold codeL linCode
 have e : linLike [p] p = linB p := by simp [linLike]
 simp only [List.all_cons, List.all_nil, Bool.and_true, e, cntT_trim]
 cases patchB p <;> simp only
 cases linB p <;> simp only
 by_cases h : cellN (trimP p).2.2.1 ≤ 24
 · rw [decide_eq_true h, decide_eq_false (show ¬ 24 < cellN (trimP p).2.2.1 by omega)]
 · rw [decide_eq_false h, decide_eq_true (show 24 < cellN (trimP p).2.2.1 by omega)]
theorem all_at {α : Type} {f : α → Bool} {xs : List α} {d : α} (h : xs.all f = true) {k : Nat} (hk : k < xs.length) : f (xs.getD k d) = true := List.all_eq_true.1 h _ (getD_mem hk)
end Go.Proofs.YtflaacndokbddaaGreat
