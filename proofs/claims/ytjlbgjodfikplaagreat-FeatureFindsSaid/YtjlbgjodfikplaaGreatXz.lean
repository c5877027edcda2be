/- General lemmas of the laws' proofs: taken out of AeH, AeJ, AeK, AeL for claims that need no more of them. -/
import Derived.Test.YtjlbgjodfikplaaGreatXe
import Derived.Test.YtjlbgjodfikplaaGreatXr
import Derived.Test.YtjlbgjodfikplaaGreatXg
set_option linter.unusedVariables false
set_option linter.unusedSimpArgs false
namespace Go.Ab
variable {prim : Nat → List AV → Option AV}
set_option maxRecDepth 10000
def cell (z : Int) : List AV := [.int .i64 z]

theorem all_next {α : Type} {l : List α} {p : α → Bool} {i : Nat} {x : α} (hx : l[i]? = some x) (h : (l.take i).all p = true) (hp : p x = true) : (l.take (i + 1)).all p = true := by
  rw [List.take_add_one, hx, List.all_append, h]
  simp [hp]
theorem all_stop {α : Type} {l : List α} {p : α → Bool} {i : Nat} {x : α} (hx : l[i]? = some x) (hp : p x = false) : l.all p = false := by
  rw [List.all_eq_false]
  exact ⟨x, List.mem_of_getElem? hx, by simp [hp]⟩
theorem wrap_succ {i n : Nat} (h : i < n) (hn : n ≤ maxLen) : IntKind.i64.wrap ((i : Int) + 1) = ((i + 1 : Nat) : Int) := by
  rw [wrap64_of (by simp only [maxLen] at hn; omega)]; rfl

structure Pt where
  x : Int
  y : Int
def Pt.av (p : Pt) : List AV := [.int .i64 p.x, .int .i64 p.y]
theorem find_take {α : Type} {l : List α} {p : α → Bool} {i : Nat} {x : α} (hx : l[i]? = some x) (h : (l.take i).find? p = none) (hp : p x = true) : l.find? p = some x := by
  have : l = l.take i ++ x :: l.drop (i + 1) := by
    obtain ⟨hl, rfl⟩ := List.getElem?_eq_some_iff.1 hx
    rw [List.getElem_cons_drop, List.take_append_drop]
  rw [this, List.find?_append, h]
  simp [hp]
theorem find_next {α : Type} {l : List α} {p : α → Bool} {i : Nat} {x : α} (hx : l[i]? = some x) (h : (l.take i).find? p = none) (hp : p x = false) : (l.take (i + 1)).find? p = none := by
  rw [List.take_add_one, hx, List.find?_append, h]
  simp [hp]
def loopOf : C → C
  | .seq _ (.block _ (.loop b)) => b
  | _ => .skip
theorem slArg {ts : List CT} {v : AV} (h : OkC (.sl ts) v) : ∃ n es, v = slv n ts.length es ∧ es.length ≤ maxLen ∧ ∀ e ∈ es, OkCs ts e := by
  simp only [OkC] at h
  rcases h with rfl | ⟨es, rfl, h1, h2⟩
  · exact ⟨true, [], by simp [slv], by simp, by simp⟩
  · exact ⟨false, es, by simp [slv], h1, h2⟩
theorem mapOf {α : Type} {f : α → List AV} : ∀ {es : List (List AV)}, (∀ e ∈ es, ∃ x, e = f x) → ∃ l : List α, es = l.map f
  | [], _ => ⟨[], rfl⟩
  | e :: r, h => by
    obtain ⟨x, rfl⟩ := h e (by simp)
    obtain ⟨l, rfl⟩ := mapOf (es := r) (fun e he => h e (by simp [he]))
    exact ⟨x :: l, rfl⟩
end Go.Ab
