/- The row of FeatureFinds: for every input the law comes to true, and its arguments read as they did. -/
import Derived.Test.YtjlbgjodfikplaaGreatXs
import Derived.Test.YtjlbgjodfikplaaGreatXv0
import Derived.Test.YtjlbgjodfikplaaGreatXv1
import Derived.Test.YtjlbgjodfikplaaGreatXv2
import Derived.Test.YtjlbgjodfikplaaGreatY2
import Derived.Test.YtjlbgjodfikplaaGreatFeatureFindsF
set_option linter.unusedVariables false
set_option linter.unusedSimpArgs false
namespace Go.Proofs.YtjlbgjodfikplaaGreat.featureFinds
open Go Go.Ab Go.ChangeShapes Go.WideShapes Go.ChangeAt Go.RowKit Go.Proofs
def kinds : List (Bool × List CT) := [(true, [.sl [.i .i64, .i .i64, .i .i64], .sl [.i .i64, .i .i64, .i .i64, .sl [.i .i64, .i .i64], .i .i64, .i .i64], .sl [.i .i64], .sl [.i .i64, .i .i64, .i .i64, .s, .sl [.i .i64]]]), (false, [.i .i64]), (false, [.i .i64])]
theorem kindsOf : ctArgs Tryz.prog 20 Tryz.f9.params.toList = some kinds := by kernel_rfl
theorem readable : Tryz.f9.params.toList.all (fun t => Tryz.prog.readableRec t && decide (t < Tryz.prog.types.size)) = true := by kernel_rfl
set_option maxRecDepth 100000 in
theorem lifted (os : Os) (started : os.Started) (H : Type) (enc : TypeId × Value → H) :
    ReturnsInHanded {} Tryz.checked os 9 .any (Rows.featureFindsSpec.pre6 enc Tryz.prog Tryz.f9 Rows.featureFindsRow.domain false) (Rows.featureFindsSpec.post enc Tryz.prog Tryz.f9 false true false false) := by
  refine returnsInHanded_of_change_sized (C := Tryz.checked) own started (by kernel_rfl) Tryz.func9
    (ChangeSpec.witness6 (enc := enc) (C := Tryz.checked) false ⟨#[], #[.agg #[.slice none 0 0, .slice none 0 0, .slice none 0 0, .slice none 0 0], .int .i64 0, .int .i64 0], []⟩ 8 (by kernel_rfl) (by kernel_rfl) (by kernel_rfl) (by kernel_rfl)) ?_
  intro W base args ds gs before hval0 hW hcnd hsz0 _
  have hval : ∀ (j : Nat) t v, Tryz.f9.params.toList[j]? = some t → args.toList[j]? = some v → Value.okWide Tryz.prog W .any base t v := fun j t v ht hv => hval0 j t v (by simpa using ht) (by simpa using hv)
  have hW' := hW
  obtain ⟨p, q, hA0, hV, rfl, hfz, hnd⟩ := hW
  have hA : DataW.TrodAll enc Tryz.prog W 0 (fun _ => true) true Tryz.f9.params.toList args.toList ds p := hA0
  obtain ⟨rfl, rfl⟩ := trodVars_none hV
  obtain ⟨avs, hok, hvr⟩ := args_read _ _ _ _ _ _ kinds hA hval kindsOf
  have hs := fun W' (hb : Below W.heap.size W W') => trodAll_stay (W' := W') laidOut hb readable hA
  have hl : ∃ d0 d1 d2, ds = [d0, d1, d2] := by
    rw [Tryz.params9] at hA
    obtain ⟨v0, vs0, d0, ds0, p0, q0, _, rfl, rfl, _, r0⟩ := trodAll_cons hA
    obtain ⟨v1, vs1, d1, ds1, p1, q1, _, rfl, rfl, _, r1⟩ := trodAll_cons r0
    obtain ⟨v2, vs2, d2, ds2, p2, q2, _, rfl, rfl, _, r2⟩ := trodAll_cons r1
    obtain ⟨rfl, rfl, rfl⟩ := trodAll_nil r2
    exact ⟨_, _, _, rfl⟩
  obtain ⟨d0, d1, d2, rfl⟩ := hl
  clear hA0 hval0 hsz0
  refine (law_calls (findsArgs avs hok) hvr).mono fun e W' ⟨he, bel⟩ => ?_
  subst he
  exact ⟨_, rfl, _, _, _, [], _, [], hW', trodAll_mk1 (shut_bool Tryz.underlying4 _), hs W' bel, rfl, bel.frame _, fun h => by cases h⟩
theorem closed : joinedFacts Tryz.prog 9 Tryz.f9 Rows.featureFindsSpec Rows.featureFindsRow = true := joined_of small laidOut rowed c9 c10 c11 c12 heard enterOk lift makeOk
theorem named : Tryz.prog.funcNamed Rows.featureFindsRow.func = some 9 := by kernel_rfl
theorem over : Rows.featureFindsRow.holds Tryz.pinned (OpenSpec.ofChange Rows.featureFindsSpec) :=
  OpenClaim.holds_of_wide 9 Tryz.f9 rfl rfl rfl rfl rfl rfl rfl ⟨rfl, rfl, rfl, rfl, rfl⟩ rfl rfl rfl rfl rfl named Tryz.func9 closed
    (of_decide_eq_true (by kernel_rfl)) (by unfold Func.isWrapper; first | (rw [if_pos (by decide +kernel)]; kernel_rfl) | (rw [if_neg (by decide +kernel)]; exact ⟨rfl, rfl⟩))
    (fun os started H enc _ => lifted os started H enc)
end Go.Proofs.YtjlbgjodfikplaaGreat.featureFinds
namespace Go.Proofs.YtjlbgjodfikplaaGreat
/-- The row, under a short name, for the claim. -/
theorem featureFinds_holds : Rows.FeatureFindsSaid := featureFinds.over
#print axioms featureFinds_holds
end Go.Proofs.YtjlbgjodfikplaaGreat
