/-
  Patches: what the validity of nodes and patches says, in plain terms.
-/
import Derived.Test.YthglggjgjlmhlaaGy
namespace Go.Proofs.Ythglggjgjlmhlaa
set_option linter.unusedSimpArgs false
set_option linter.unusedVariables false

/-- Kind, A, B, From. -/
abbrev NodeD := Int × Int × Int × List Int
/-- Inputs, Tables, Nodes, Outputs. -/
abbrev PatchD := Int × List (List Int) × List NodeD × List Int

/-- What is known of the kinds: inputs, the range of A, linear, has B. -/
def kindT : List (Int × Int × Int × Bool × Bool) :=
  [(0, 0, 3, true, false), (0, -2147483648, 2147483647, false, false), (2, 1, 0, true, false), (2, 1, 0, true, false), (1, -2147483648, 2147483647, true, false), (1, 1, 16, true, false),
   (1, 1, 0, true, false), (1, 1, 0, true, false), (2, 1, 0, false, false), (1, 0, 31, false, false), (1, 0, 2147483647, false, false), (1, -2147483648, 2147483647, false, false),
   (1, 0, 3, false, false), (0, -2147483648, 2147483647, false, false), (3, 1, 0, false, false), (2, 1, 0, false, false), (1, -2147483648, 2147483647, true, true)]
def kT (k : Int) : Int × Int × Int × Bool × Bool := kindT.getD (k - 1).toNat (0, 0, 0, false, false)
/-- The kinds, with their names. -/
def kindsL : List (ByteArray × Int × Int × Int × Bool × Bool) :=
  [(⟨#[105, 110, 112, 117, 116]⟩, 0, 0, 3, true, false),
   (⟨#[99, 111, 110, 115, 116]⟩, 0, -2147483648, 2147483647, false, false),
   (⟨#[97, 100, 100]⟩, 2, 1, 0, true, false),
   (⟨#[115, 117, 98]⟩, 2, 1, 0, true, false),
   (⟨#[103, 97, 105, 110]⟩, 1, -2147483648, 2147483647, true, false),
   (⟨#[100, 101, 108, 97, 121]⟩, 1, 1, 16, true, false),
   (⟨#[115, 117, 109]⟩, 1, 1, 0, true, false),
   (⟨#[100, 105, 102, 102]⟩, 1, 1, 0, true, false),
   (⟨#[109, 117, 108]⟩, 2, 1, 0, false, false),
   (⟨#[115, 104, 105, 102, 116]⟩, 1, 0, 31, false, false),
   (⟨#[99, 108, 105, 112]⟩, 1, 0, 2147483647, false, false),
   (⟨#[112, 104, 97, 115, 101]⟩, 1, -2147483648, 2147483647, false, false),
   (⟨#[116, 97, 98, 108, 101]⟩, 1, 0, 3, false, false),
   (⟨#[110, 111, 105, 115, 101]⟩, 0, -2147483648, 2147483647, false, false),
   (⟨#[115, 101, 108, 101, 99, 116]⟩, 3, 1, 0, false, false),
   (⟨#[104, 111, 108, 100]⟩, 2, 1, 0, false, false),
   (⟨#[99, 111, 109, 98]⟩, 1, -2147483648, 2147483647, true, true)]
theorem kindsL_at {k : Int} (h : inR k 1 17 = true) : (kindsL.getD (k - 1).toNat (ByteArray.empty, 0, 0, 0, false, false)).2 = kT k ∧ 0 ≤ k - 1 ∧ k - 1 < 17 := by
  obtain ⟨h1, h2⟩ := inR_iff.1 h
  refine ⟨?_, by omega, by omega⟩
  obtain ⟨m, hm⟩ : ∃ m : Nat, k - 1 = m := ⟨(k - 1).toNat, by omega⟩
  have hm' : m < 17 := by omega
  unfold kT
  rw [hm, Int.toNat_natCast]
  have key : ∀ m : _root_.Fin 17, (kindsL.getD m.1 (ByteArray.empty, 0, 0, 0, false, false)).2 = kindT.getD m.1 (0, 0, 0, false, false) := by decide
  exact key ⟨m, hm'⟩
/-- A node is valid for a number of tables. -/
def nodeB (n : NodeD) (tables : Int) : Bool :=
  inR n.1 1 17 && (match decide ((kT n.1).2.1 ≤ (kT n.1).2.2.1) with | true => inR n.2.1 (kT n.1).2.1 (kT n.1).2.2.1 | false => decide (n.2.1 = 0)) &&
    (match (kT n.1).2.2.2.2 with | true => inR n.2.2.1 1 16 | false => decide (n.2.2.1 = 0)) && n.2.2.2.all (fun f => inR f 0 23) && decide ((n.2.2.2.length : Int) = (kT n.1).1) && (!decide (n.1 = 13) || decide (n.2.1 < tables))
def tabB (t : List Int) : Bool := (decide (t.length = 2) || decide (t.length = 4) || decide (t.length = 8) || decide (t.length = 16)) && smps t
def tabsB (ts : List (List Int)) : Bool := ts.all tabB && decide (ts.length ≤ 4)
/-- A node within a patch. -/
def nodeIn (p : PatchD) (n : NodeD) : Bool := nodeB n p.2.1.length && idxs p.2.2.1.length n.2.2.2 && !(decide (n.1 = 1) && decide (p.1 ≤ n.2.1))
def formedB (p : PatchD) : Bool := inR p.1 0 4 && tabsB p.2.1 && decide (p.2.2.1.length ≤ 24) && decide (p.2.2.2.length ≤ 4) && idxs p.2.2.1.length p.2.2.2 && p.2.2.1.all (nodeIn p)
/-- The nodes that a node waits for. -/
def waitsL (n : NodeD) : List Int := match decide (n.1 = 6) with | true => [] | false => n.2.2.2
def n0 : NodeD := (0, 0, 0, [])
def readyB (ns : List NodeD) (out : List Int) (i : Nat) : Bool := !out.contains (i : Int) && (waitsL (ns.getD i n0)).all (fun f => out.contains f)
def nextR (ns : List NodeD) (out : List Int) : Option Nat := (List.range ns.length).find? (readyB ns out)
def ordGo (ns : List NodeD) : Nat → List Int → List Int
  | 0, out => out
  | k + 1, out => match nextR ns out with
    | none => out
    | some i => ordGo ns k (out ++ [(i : Int)])
/-- The order in which nodes are computed. -/
def ordL (ns : List NodeD) : List Int := ordGo ns ns.length []
def patchB (p : PatchD) : Bool := formedB p && decide ((ordL p.2.2.1).length = p.2.2.1.length)

theorem nextR_none {ns : List NodeD} {out : List Int} (h : ∀ j, j < ns.length → readyB ns out j = false) : nextR ns out = none := by
  simp only [nextR, List.find?_eq_none, List.mem_range, Bool.not_eq_true]
  exact h
theorem nextR_some {ns : List NodeD} {out : List Int} {i : Nat} (hi : i < ns.length) (h : ∀ j, j < i → readyB ns out j = false) (k : readyB ns out i = true) : nextR ns out = some i := by
  simp only [nextR]
  have e : List.range ns.length = List.range i ++ i :: (List.range' (i + 1) (ns.length - i - 1)) := by
    have := @List.range'_append_1 0 i (ns.length - i)
    rw [Nat.zero_add, (by omega : i + (ns.length - i) = ns.length)] at this
    rw [List.range_eq_range', List.range_eq_range', ← this]
    congr 1
    rw [(by omega : ns.length - i = (ns.length - i - 1) + 1), List.range'_succ]
    congr 2
  rw [e, List.find?_append, List.find?_eq_none.2 (fun j hj => by simpa using h j (List.mem_range.1 hj)), Option.none_or, List.find?_cons_of_pos k]
theorem ordGo_none {ns : List NodeD} {out : List Int} (k : Nat) (h : nextR ns out = none) : ordGo ns k out = out := by
  cases k with
  | zero => rfl
  | succ k => simp only [ordGo, h]
theorem ordGo_some {ns : List NodeD} {out : List Int} {k i : Nat} (h : nextR ns out = some i) : ordGo ns (k + 1) out = ordGo ns k (out ++ [(i : Int)]) := by simp only [ordGo, h]
end Go.Proofs.Ythglggjgjlmhlaa
