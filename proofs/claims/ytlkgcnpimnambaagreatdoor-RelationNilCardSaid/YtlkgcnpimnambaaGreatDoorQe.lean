/- PROVED: what a function comes to by plain names, and other closed facts of a great program, out of tables and pieces. No condition. -/
import Derived.Test.YtlkgcnpimnambaaGreatDoorQd
import Derived.JoinedOf
import GoSem.ClaimGoes
/- WHAT A FUNCTION COMES TO BY PLAIN NAMES, OUT OF A TABLE OF ALL FUNCTIONS: a great program's closed facts, a piece at a time. -/
namespace Go.Reach
open Go Go.Abs
structure Row where (lt : List Nat) (ip : Option String) (gl : List Nat) (rd : Option String) (gs : Bool)
def rowOf (P : Program) (fn : Func) : Row :=
  ⟨P.leadsTo fn, if fn.ours || fn.body.isNone || fn.name == "runtime.NumGoroutine" then some fn.name else none, fn.body.elim [] Code.globalsNamed, if fn.body.isNone then entryReads.lookup fn.name else none, fn.goes⟩
noncomputable section
def tb (m x : Nat) : Bool := Nat.beq (Nat.land 1 (Nat.shiftRight m x)) 1
/-- the closure, what is seen kept as bits besides -/
def cv (E : Nat → List Nat) (n : Nat) : List Nat → List Nat → Nat → List Nat :=
  Nat.rec (motive := fun _ => List Nat → List Nat → Nat → List Nat) (fun _ seen _ => seen.reverse)
    (fun _ ih todo seen m => List.rec (motive := fun _ => List Nat) seen.reverse
      (fun f todo _ => Bool.rec (app (ih (apd (E f) todo) (f :: seen)) (Nat.lor m (Nat.shiftLeft 1 f))) (app (ih todo seen) m) (tb m f)) todo) n
def ltOf (T : List Row) (g : Nat) : List Nat := Option.rec [] (fun r => r.lt) (nthO T g)
end
theorem tb_eq (m x : Nat) : tb m x = m.testBit x := by
  have h1 : tb m x = Nat.beq (1 &&& (m >>> x)) 1 := rfl
  rw [h1, Nat.testBit]
  have h2 : 1 &&& (m >>> x) = (m >>> x) % 2 := Nat.one_and_eq_mod_two _
  rw [h2]
  rcases Nat.mod_two_eq_zero_or_one (m >>> x) with h | h <;> rw [h] <;> rfl
theorem tb_set (m f x : Nat) : tb (Nat.lor m (Nat.shiftLeft 1 f)) x = (x == f || tb m x) := by
  rw [tb_eq, tb_eq]
  show (m ||| (1 <<< f)).testBit x = _
  rw [Nat.testBit_or, Nat.one_shiftLeft, Nat.testBit_two_pow, Bool.or_comm]
  congr 1
  rw [Bool.eq_iff_iff, decide_eq_true_eq, beq_iff_eq]
  exact ⟨fun h => h.symm, fun h => h.symm⟩
variable {P : Program} {T : List Row}
theorem at_row (hT : P.funcs.toList.map (rowOf P) = T) (g : Nat) : T[g]? = (P.funcs[g]?).map (rowOf P) := by
  subst hT; simp
theorem lt_row (hT : P.funcs.toList.map (rowOf P) = T) (g : Nat) : ltOf T g = (P.funcs[g]?).elim [] P.leadsTo := by
  unfold ltOf
  rw [nthO_eq, at_row hT]
  cases P.funcs[g]? <;> rfl
theorem cv_eq (hT : P.funcs.toList.map (rowOf P) = T) : ∀ (n : Nat) (todo seen : List Nat) (m : Nat), (∀ x, seen.contains x = tb m x) → cv (ltOf T) n todo seen m = P.closureVia n todo seen
  | 0, _, _, _, _ => by unfold Program.closureVia; rfl
  | n + 1, [], seen, m, _ => by unfold Program.closureVia; rfl
  | n + 1, f :: todo, seen, m, h => by
    have e : cv (ltOf T) (n + 1) (f :: todo) seen m = Bool.rec (cv (ltOf T) n (apd (ltOf T f) todo) (f :: seen) (Nat.lor m (Nat.shiftLeft 1 f))) (cv (ltOf T) n todo seen m) (tb m f) := rfl
    rw [e]
    unfold Program.closureVia
    rw [h f]
    cases hb : tb m f
    · simp only [Bool.false_eq_true, if_false]
      rw [cv_eq hT n _ _ _ (fun x => by rw [tb_set, ← h x, List.contains_cons]), apd_eq, lt_row hT]
    · simp only [if_true]
      exact cv_eq hT n _ _ _ h
theorem fuel_row (hT : P.funcs.toList.map (rowOf P) = T) : (P.funcs.toList.map fun g => (P.leadsTo g).length + 1).sum = (T.map fun r => r.lt.length + 1).sum := by
  subst hT; simp [rowOf, Function.comp_def]
/-- WHAT IS COME TO -/
theorem closure_eq (hT : P.funcs.toList.map (rowOf P) = T) {n : Nat} (hn : 1 + (T.map fun r => r.lt.length + 1).sum = n) (f : FuncId) : P.closure f = cv (ltOf T) n [f] [] 0 := by
  rw [cv_eq hT n [f] [] 0 (fun x => by rw [tb_eq]; simp), ← hn, ← fuel_row hT]
  rfl
theorem inPlace_eq (hT : P.funcs.toList.map (rowOf P) = T) (f : FuncId) : P.inPlace f = (P.closure f).filterMap fun g => (T[g]?).bind (·.ip) := by
  unfold Program.inPlace
  congr 1
  funext g
  rw [at_row hT]
  cases P.funcs[g]? <;> rfl
theorem varsNamed_eq (hT : P.funcs.toList.map (rowOf P) = T) (f : FuncId) : P.varsNamed f =
    ((((P.closure f).flatMap fun g => ((T[g]?).map (·.gl)).getD []).eraseDups).filterMap (fun g => (P.globals[g]?).map (·.name)) ++ (P.closure f).filterMap fun g => (T[g]?).bind (·.rd)).eraseDups := by
  unfold Program.varsNamed
  congr 2
  · congr 3
    funext g
    rw [at_row hT]
    cases hg : P.funcs[g]? with
    | none => rfl
    | some fn => simp only [Option.bind_some, Option.map_some, Option.getD_some]; rfl
  · congr 1
    funext g
    rw [at_row hT]
    cases P.funcs[g]? <;> rfl
theorem goes_none (hT : P.funcs.toList.map (rowOf P) = T) (h : (T.any (·.gs)) = false) (f : FuncId) : P.goes f = false := by
  have h1 : ∀ fn ∈ P.funcs, fn.goes = false := fun fn hfn => by
    subst hT
    rw [List.any_eq_false] at h
    have := h (rowOf P fn) (List.mem_map.2 ⟨fn, by simpa using hfn, rfl⟩)
    simpa [rowOf] using this
  have h2 : (P.funcs.any Func.goes) = false := by
    rw [Array.any_eq_false]
    intro i hi
    simpa using h1 _ (Array.getElem_mem hi)
  unfold Program.goes
  rw [h2, Bool.and_false, Bool.or_false, List.any_eq_false]
  intro g _
  cases hg : P.funcs[g]? with
  | none => simp
  | some fn => simpa using h1 fn (Array.mem_of_getElem? hg)
theorem unfollowed_of (f : FuncId) {g : FuncId} (hg : g ∈ P.closure f) {fn : Func} (hf : P.funcs[g]? = some fn) {c : Code} (hb : fn.body = some c) (hc : c.unfollowed = true) : P.unfollowed f = true := by
  unfold Program.unfollowed
  rw [List.any_eq_true]
  exact ⟨g, hg, by simp [hf, hb, hc]⟩
theorem recurses_of {f : FuncId} (h : P.unfollowed f = true) : P.recurses f = true := by unfold Program.recurses; rw [h]; rfl
/-- a table out of pieces -/
theorem rows_join {l : List Func} {a : Nat} {A B : List Row} (h1 : (l.take a).map (rowOf P) = A) (h2 : (l.drop a).map (rowOf P) = B) : l.map (rowOf P) = A ++ B := by
  rw [← h1, ← h2, ← List.map_append, List.take_append_drop]
end Go.Reach
namespace Go.Reach
open Go
variable {P : Program}
theorem rows_step {l : List Func} {a k : Nat} {A B : List Row} (h1 : ((l.drop a).take k).map (rowOf P) = A) (h2 : (l.drop (a + k)).map (rowOf P) = B) : (l.drop a).map (rowOf P) = A ++ B :=
  rows_join h1 (by rw [List.drop_drop]; exact h2)
theorem rows_end {l : List Func} {a : Nat} (h : Nat.ble l.length a = true) : (l.drop a).map (rowOf P) = [] := by
  rw [List.drop_eq_nil_of_le (Nat.le_of_ble_eq_true h)]; rfl
end Go.Reach
namespace Go.Reach
open Go
variable {P : Program}
theorem all_step {α : Type} {f : α → Bool} {l : List α} {a k : Nat} (h1 : (((l.drop a).take k).all f) = true) (h2 : ((l.drop (a + k)).all f) = true) : ((l.drop a).all f) = true := by
  rw [← List.take_append_drop k (l.drop a), List.all_append, h1, List.drop_drop, h2]; rfl
theorem all_end {α : Type} {f : α → Bool} {l : List α} {a : Nat} (h : Nat.ble l.length a = true) : ((l.drop a).all f) = true := by
  rw [List.drop_eq_nil_of_le (Nat.le_of_ble_eq_true h)]; rfl
theorem laidOut_of {n : Nat} (hn : P.types.size = n) (h1 : (((List.range n).drop 0).all (rowFine P)) = true) (h2 : P.globals.all (fun g => decide (g.type < n)) = true) (h3 : P.funcs.all (fun f => f.params.all fun t => decide (t < n)) = true) : laidOutB P = true := by
  subst hn
  unfold laidOutB
  rw [show (List.range P.types.size).all (rowFine P) = true from h1, h2, h3]; rfl
theorem mapsRowed_of {n : Nat} (hn : P.types.size = n) (h1 : (((List.range n).drop 0).all fun t => match P.underlying t with | some (.map _ e) => decide (e < n) | _ => true) = true) : mapsRowed P = true := by
  subst hn
  exact h1
theorem plainKeys_of {n : Nat} (hn : P.types.size = n) (h1 : (((List.range n).drop 0).all fun t => match P.underlying t with
    | some (.map k _) => (match P.underlying k with | some (.array _ _) | some (.struct _) => false | _ => true)
    | _ => true) = true) : P.plainKeys = true := by
  subst hn
  exact h1
theorem stopsHeard_of (h1 : ((P.funcs.toList.drop 0).all fun fn => (Stop.rowOf fn).isNone || !fn.norace) = true) : P.stopsHeard = true := by
  unfold Program.stopsHeard
  rw [← Array.all_toList]
  exact h1
end Go.Reach
