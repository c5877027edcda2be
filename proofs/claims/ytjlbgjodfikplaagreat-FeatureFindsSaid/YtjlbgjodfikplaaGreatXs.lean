/- From the evaluator's answer to what a row asks. -/
import Derived.Test.YtjlbgjodfikplaaGreatXp
import Derived.Test.YtjlbgjodfikplaaGreatXe
import Derived.Test.YtjlbgjodfikplaaGreatXr
import Derived.Carry
import Derived.Test.YtjlbgjodfikplaaGreatRows
import Derived.WalkKit
import Derived.ProofKit
import Derived.OpenShut
import Derived.ShutString
import Derived.ChangeOld
import Derived.Below
import Derived.SizedLaws
set_option linter.unusedVariables false
set_option linter.unusedSimpArgs false
namespace Go.Ab
open Go.RowKit Go.Proofs

theorem mixed : Tryz.prog.follows .mixedOrders = true := by kernel_rfl

theorem om_PC {g : Nat} {args : List AV} {res : AV} (h : (om prim1 F).p g args = some res) : PC Tryz.prog g args res := by
  obtain ⟨f, hf⟩ := (om_p_iff prim1 F).1 h
  exact (((lv_sound mixed envOk primOk f).1).p g args res hf).2

theorem trodAll_stay {H : Type} {enc : TypeId × Value → H} {P : Program} {W W' : World} (hl : laidOutB P = true) (hb : Below W.heap.size W W') : ∀ {ts : List TypeId} {vs : List Value} {ds : List (DataW H)} {ps : List MemPlace},
    ts.all (fun t => P.readableRec t && decide (t < P.types.size)) = true → DataW.TrodAll enc P W 0 (fun _ => true) true ts vs ds ps → DataW.TrodAll enc P W' 0 (fun b => decide (b < W.heap.size)) true ts vs ds ps
  | [], [], [], _, _, h => h
  | t :: ts, v :: vs, d :: ds, _, ht, ⟨p, q, h1, h2, e⟩ => by
    simp only [List.all_cons, Bool.and_eq_true, decide_eq_true_eq] at ht
    subst e
    have lt : ∀ x ∈ p, x.block < W.heap.size := by obtain ⟨m, hm⟩ := h1; exact DataW.trod_lt m _ _ _ hm
    exact ⟨p, q, Below.trod hl ht.1.1 ht.1.2 h1 hb lt, trodAll_stay hl hb ht.2 h2, rfl⟩

/-- A law that the evaluator answers true comes to true, and leaves all as it was. -/
theorem law_calls {g : Nat} {avs : List AV} (h : (om prim1 F).p g avs = some (.bool true)) {W : World} {args : Array Value} (hv : VRs (X0 W) avs args.toList) :
    Calls Tryz.prog g args W fun e w' => e = .returned (.bool true) ∧ Below W.heap.size W w' := by
  have := om_PC h W (fun b => b < W.heap.size) args.toList (fun _ h => h) hv
  rw [Array.toArray_toList] at this
  refine this.mono ?_
  rintro e w' ⟨v, rfl, hr⟩
  obtain ⟨Y, _, _, _, _, h1, _⟩ := hr.res 0
  have : (adp 0 4 (AV.bool true)).1 = .bool true := by simp [adp]
  rw [this] at h1
  simp only [VR] at h1
  subst h1
  exact ⟨rfl, hr.below⟩
theorem own : ownKnob Tryz.prog.godebug = none := by kernel_rfl
end Go.Ab
