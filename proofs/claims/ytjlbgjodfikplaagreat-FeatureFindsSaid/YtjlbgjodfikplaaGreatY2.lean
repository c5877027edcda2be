/- Layer 17: points, the reference's; Find, the reference's. -/
import Derived.Test.YtjlbgjodfikplaaGreatY1
import Derived.Test.YtjlbgjodfikplaaGreatXw
import Derived.Test.YtjlbgjodfikplaaGreatXz
set_option linter.unusedVariables false
set_option linter.unusedSimpArgs false
namespace Go.Ab
attribute [local go_sem] evParts_nil evParts_cons consP_some buildQ_some bldC_some mksQ_some mksC_some fillAll_nil fillAll_cons chop_zero chop_succ rep_zero rep_succ List.flatten_cons List.flatten_nil boxQ_c boxC_eq avCells_ptr List.append_nil List.all_nil List.all_cons Bool.true_and Bool.and_true isOne_int isOne_bool isOne_str isOne_nils isOne_own isOne_ptr isOne_slv lay_nil0 lay_cons0 lay_nil lay_succ List.drop_zero List.take_succ_cons List.take_zero List.drop_succ_cons List.getElem?_cons_zero List.getElem?_cons_succ List.take_nil List.drop_nil List.nil_append List.cons_append a_skip a_exit a_ret a_seq a_block a_cond a_reg thn_norm thn_exit thn_ret blk_norm blk_ret blk_exit rg_some cnd_true cnd_false ops_nil ops_g stepQ_quiet stepQ_makes stepW_some stepW_none stepG_tt stepG_tf stepG_ft stepG_ff stepG_ttN stepG_tfN stepG_ftN stepG_ffN stepG_skip stepG_skipN qv_s ev_t ev_c bin_add bin_sub bin_mul bin_lss bin_leq bin_gtr bin_geq bin_eql bin_neq viewOld_get add_next put_next add_row add_map put_get kl_row kl_none kl_map ops_mv ops_pick ops_new0 ops_new1 ops_new2 ops_box0 ops_box1 ops_box2 ops_build ops_mks0 ops_mks1 ops_mks2 ops_bin ops_un ops_len0 ops_len1 ops_len2 ops_call0 ops_call1 ops_call2 ops_fld ops_ixa ops_ext ops_app0 ops_app1 ops_app2 ops_mm ops_ixr ops_conv ops_convs ops_nilc ops_ixs ops_ixg ops_mkf ops_bb ops_nq ops_eqs ops_ld0 ops_ld1 ops_ld2 ops_st ops_calli pickQ_true pickQ_false ldRow_one ldQ_ref ldQ_ptr cut_false cut_true binQ_some unQ_some un_not un_neg fldQ_ptr fldQ_ref extQ_tup evs_nil evs_cons consO_some lenQ_slv lenQ_ro lenQ_own lenQ_nils lenQ_str stQ_ptr stR_one avCells_agg avCells_int avCells_bool avCells_str avCells_slv avCells_own avCells_nils get_set List.length_cons List.length_nil Res_some Res_thn Res_blk seqP_norm seqP_exit seqP_ret blkP_norm blkP_exit blkP_ret rndP_norm rndP_exit rndP_ret Fin_norm Fin_ret Fin_exit rvV_ptr rvC_one evRV_t evRV_c evRVs_nil evRVs_cons ofL_nil ofL_cons tupOf_one tupOf_two exP if_true if_false not_false_eq_true not_true_eq_false decide_true decide_false Option.isSome_some eq_self and_self and_true true_and and_false false_and Nat.zero_add Nat.add_zero decide_eq_true_eq decide_eq_false_iff_not ne_eq Bool.false_eq_true Bool.true_eq_false reduceCtorEq Nat.reduceLT Nat.reduceEqDiff Nat.reduceAdd Nat.reduceSub Nat.reduceMul Nat.reduceLeDiff get_lf List.length_map mapF_nil mapF_cons mapC_some callQ_fn callR_some callS_cint callS_cbool callS_cstr frz_own frzR_row frzE_some frz_aggC frzA_some frz_int frz_bool frz_str frz_ro frz_nils frz_ref frz_slv view_get view_next viewOld_next eqsQ_agg eqC_some eqK_nil eqK_cons andO_some eq1_int eq1_bool eq1_str bbQ_some mmQ_some mm_nil mm_max mm_min convQ_some mkfQ_some convsQ_some nilcQ_ptr nilcQ_ref bin_quo bin_rem Int.reduceEq Int.reduceNe Int.reduceNeg flatA_agg flatA_int flatA_bool flatA_str flatA_nils flatA_ro flatA_slv flat_int flat_bool flat_str flat_nils flat_ro flat_slv num_int num_bool num_str all_mem_cons all_mem_nil export_flat export_tup callS_nums callS_flat callS_tup Bool.not_true Bool.not_false Bool.and_false Bool.false_and Bool.or_true Bool.true_or Bool.or_false Bool.false_or Bool.not_eq_true Bool.not_eq_false Bool.not_not Bool.not_eq_eq_eq_not Bool.not_eq_true' E0_next E0_get eq_add_one add_one_eq add_eq_add lt_add_self add_lt_add Nat.add_assoc ops_mkv mkvQ_some mkvC_some stv_int stv_bool stv_str stv_nils stv_ro stv_slv isOne_ro ops_slr0 ops_slr1 slrA_ptr slrA_ref frz_ptrC frzPt_one frzPc_some slrQ_some slrP_all stepQ_seal sealC_get slO_row slO_none slO_map seal_next callS_tupC callS_aggC callS_exC callT_nil callT_no callT_yes adp_ex adp_agg adp_tup adpL_nil adpL_cons adK_some adJ_some adA_some adT_some adp_int adp_bool adp_str adp_nils adp_ro adp_slv hasRo_int hasRo_bool hasRo_str hasRo_nils hasRo_ro hasRo_agg hasRo_tup hasRo_ex List.any_nil List.any_cons bin_seq bin_sne appQ_some appR_e_nils appR_e_own appR_cons appN_nils appN_own appO_row elems_ro elems_nils elems_own elO_row view_topD add_top0D add_top1D seal_tops E0_tops put_tops nqQ_slv List.not_mem_nil or_false or_true true_or false_or List.mem_cons frz_fnC frzFn_some nqQ_ro nqQ_nils List.map_nil List.map_cons expF_some xpt_own xpO_row xpO2_some xpt_agg xpt_tup xpA_some xpT_some xptL_nil xptL_cons xpC_some xpt_int xpt_bool xpt_str xpt_nils xpt_ro xpt_slv mapF2_cells nodup_one nodup_nil take_all take_all_map List.contains_nil Nat.le_refl mapF2_pts anyRo_pts anyRo_cells
variable {prim : Nat → List AV → Option AV}
set_option maxRecDepth 10000
theorem shape_cases (k : Int) : shape k = 0 ∨ shape k = 1 ∨ shape k = 2 ∨ shape k = 3 := by
  unfold shape
  split <;> (try split) <;> (try split) <;> simp
def refPts (s : Sv) (f : Ft) : List Pt := if shape f.kind = 0 then [] else ptsOf s f
theorem points53 (s : Sv) (f : Ft) (ok : OkB s) (hl : f.parts.length ≤ 1073741824) : (om prim F).p 53 [.agg s.av, .agg f.av] = some (exs true 2 ((refPts s f).map Pt.av)) := by
  refine call_of F53 rfl ?_
  have k4 := shape40 (prim := prim) f.kind
  obtain ⟨A, hA⟩ : ∃ A, decide (shape f.kind = 1) = true ∧ A = f.parts ∨ decide (shape f.kind = 1) = false ∧ A = [] := by
    cases h : decide (shape f.kind = 1)
    · exact ⟨[], .inr ⟨rfl, rfl⟩⟩
    · exact ⟨_, .inl ⟨rfl, rfl⟩⟩
  obtain ⟨B, hB⟩ : ∃ B, decide (1 < shape f.kind) = true ∧ B = s.arcs ∨ decide (1 < shape f.kind) = false ∧ B = [] := by
    cases h : decide (1 < shape f.kind)
    · exact ⟨[], .inr ⟨rfl, rfl⟩⟩
    · exact ⟨_, .inl ⟨rfl, rfl⟩⟩
  have e : refPts s f = A.flatMap (nodePts s) ++ B.flatMap (arcPts s f) := by
    unfold refPts ptsOf
    rcases shape_cases f.kind with h | h | h | h <;> simp only [h] at hA hB ⊢ <;> simp at hA hB <;> simp [hA, hB]
  have hAl : A.length ≤ 1073741824 := by
    rcases hA with ⟨_, rfl⟩ | ⟨_, rfl⟩
    · exact hl
    · simp
  have hLl : (A.flatMap (nodePts s)).length ≤ 1073741824 := Nat.le_trans (flat_len1 s A) hAl
  rw [e]
  have ra := round53a (prim := prim) s f A hA ok.ok hl
  have rb := round53b (prim := prim) s f (A.flatMap (nodePts s)) hLl B hB ok hl
  clear e hA hB hAl hLl ok hl
  generalize A.flatMap (nodePts s) = L0 at ra rb ⊢
  unfold c53
  simp only [↓reduceIte, go_sem, *, Sv.av, Ft.av]
  refine (loop_up A.length (I53a s f A) ra 0 _ (Nat.zero_le _) (by simp only [↓reduceIte, go_sem, I53a, base53, Sv.av, Ft.av]; exact ⟨⟨_, rfl⟩, rfl, .inl ⟨rfl, rfl⟩⟩)).mono ?_
  clear ra
  rintro e ⟨t, h⟩ hq
  cases e with
  | norm => exact hq.elim
  | ret => exact hq.elim
  | exit i =>
    obtain ⟨rfl, hb, ha⟩ := hq
    have hI : I53b s f L0 B 0 ⟨t.set 10 (.int .i64 0), h⟩ := by
      obtain ⟨hm, g2, r2, g3, r3, g6⟩ := hb
      simp only at g2 r2 g3 r3 g6 ha
      simp only [↓reduceIte, go_sem, I53b, base53]
      refine ⟨⟨hm, g2, r2, g3, r3, g6⟩, rfl, ?_⟩
      simpa using ha
    clear hb ha
    simp only [↓reduceIte, go_sem]
    refine (loop_up B.length (I53b s f L0 B) rb 0 _ (Nat.zero_le _) hI).mono ?_
    clear rb hI
    rintro e ⟨t, h⟩ hq
    cases e with
    | norm => exact hq.elim
    | ret => exact hq.elim
    | exit i =>
      obtain ⟨rfl, ha⟩ := hq
      simp only at ha
      obtain ⟨v, hv⟩ := acc_some ha
      rw [hv] at ha
      have hx := export_acc ha
      clear ha
      repeat' (first | done | (simp -implicitDefEqProofs only [↓reduceIte, go_sem, *]) | ((first | rw [stepG_split] | rw [cnd_split] | rw [pickQ_split]); split))
end Go.Ab
namespace Go.Ab
attribute [local go_sem] evParts_nil evParts_cons consP_some buildQ_some bldC_some mksQ_some mksC_some fillAll_nil fillAll_cons chop_zero chop_succ rep_zero rep_succ List.flatten_cons List.flatten_nil boxQ_c boxC_eq avCells_ptr List.append_nil List.all_nil List.all_cons Bool.true_and Bool.and_true isOne_int isOne_bool isOne_str isOne_nils isOne_own isOne_ptr isOne_slv lay_nil0 lay_cons0 lay_nil lay_succ List.drop_zero List.take_succ_cons List.take_zero List.drop_succ_cons List.getElem?_cons_zero List.getElem?_cons_succ List.take_nil List.drop_nil List.nil_append List.cons_append a_skip a_exit a_ret a_seq a_block a_cond a_reg thn_norm thn_exit thn_ret blk_norm blk_ret blk_exit rg_some cnd_true cnd_false ops_nil ops_g stepQ_quiet stepQ_makes stepW_some stepW_none stepG_tt stepG_tf stepG_ft stepG_ff stepG_ttN stepG_tfN stepG_ftN stepG_ffN stepG_skip stepG_skipN qv_s ev_t ev_c bin_add bin_sub bin_mul bin_lss bin_leq bin_gtr bin_geq bin_eql bin_neq viewOld_get add_next put_next add_row add_map put_get kl_row kl_none kl_map ops_mv ops_pick ops_new0 ops_new1 ops_new2 ops_box0 ops_box1 ops_box2 ops_build ops_mks0 ops_mks1 ops_mks2 ops_bin ops_un ops_len0 ops_len1 ops_len2 ops_call0 ops_call1 ops_call2 ops_fld ops_ixa ops_ext ops_app0 ops_app1 ops_app2 ops_mm ops_ixr ops_conv ops_convs ops_nilc ops_ixs ops_ixg ops_mkf ops_bb ops_nq ops_eqs ops_ld0 ops_ld1 ops_ld2 ops_st ops_calli pickQ_true pickQ_false ldRow_one ldQ_ref ldQ_ptr cut_false cut_true binQ_some unQ_some un_not un_neg fldQ_ptr fldQ_ref extQ_tup evs_nil evs_cons consO_some lenQ_slv lenQ_ro lenQ_own lenQ_nils lenQ_str stQ_ptr stR_one avCells_agg avCells_int avCells_bool avCells_str avCells_slv avCells_own avCells_nils get_set List.length_cons List.length_nil Res_some Res_thn Res_blk seqP_norm seqP_exit seqP_ret blkP_norm blkP_exit blkP_ret rndP_norm rndP_exit rndP_ret Fin_norm Fin_ret Fin_exit rvV_ptr rvC_one evRV_t evRV_c evRVs_nil evRVs_cons ofL_nil ofL_cons tupOf_one tupOf_two exP if_true if_false not_false_eq_true not_true_eq_false decide_true decide_false Option.isSome_some eq_self and_self and_true true_and and_false false_and Nat.zero_add Nat.add_zero decide_eq_true_eq decide_eq_false_iff_not ne_eq Bool.false_eq_true Bool.true_eq_false reduceCtorEq Nat.reduceLT Nat.reduceEqDiff Nat.reduceAdd Nat.reduceSub Nat.reduceMul Nat.reduceLeDiff get_lf List.length_map mapF_nil mapF_cons mapC_some callQ_fn callR_some callS_cint callS_cbool callS_cstr frz_own frzR_row frzE_some frz_aggC frzA_some frz_int frz_bool frz_str frz_ro frz_nils frz_ref frz_slv view_get view_next viewOld_next eqsQ_agg eqC_some eqK_nil eqK_cons andO_some eq1_int eq1_bool eq1_str bbQ_some mmQ_some mm_nil mm_max mm_min convQ_some mkfQ_some convsQ_some nilcQ_ptr nilcQ_ref bin_quo bin_rem Int.reduceEq Int.reduceNe Int.reduceNeg flatA_agg flatA_int flatA_bool flatA_str flatA_nils flatA_ro flatA_slv flat_int flat_bool flat_str flat_nils flat_ro flat_slv num_int num_bool num_str all_mem_cons all_mem_nil export_flat export_tup callS_nums callS_flat callS_tup Bool.not_true Bool.not_false Bool.and_false Bool.false_and Bool.or_true Bool.true_or Bool.or_false Bool.false_or Bool.not_eq_true Bool.not_eq_false Bool.not_not Bool.not_eq_eq_eq_not Bool.not_eq_true' E0_next E0_get eq_add_one add_one_eq add_eq_add lt_add_self add_lt_add Nat.add_assoc ops_mkv mkvQ_some mkvC_some stv_int stv_bool stv_str stv_nils stv_ro stv_slv isOne_ro ops_slr0 ops_slr1 slrA_ptr slrA_ref frz_ptrC frzPt_one frzPc_some slrQ_some slrP_all stepQ_seal sealC_get slO_row slO_none slO_map seal_next callS_tupC callS_aggC callS_exC callT_nil callT_no callT_yes adp_ex adp_agg adp_tup adpL_nil adpL_cons adK_some adJ_some adA_some adT_some adp_int adp_bool adp_str adp_nils adp_ro adp_slv hasRo_int hasRo_bool hasRo_str hasRo_nils hasRo_ro hasRo_agg hasRo_tup hasRo_ex List.any_nil List.any_cons bin_seq bin_sne appQ_some appR_e_nils appR_e_own appR_cons appN_nils appN_own appO_row elems_ro elems_nils elems_own elO_row view_topD add_top0D add_top1D seal_tops E0_tops put_tops nqQ_slv List.not_mem_nil or_false or_true true_or false_or List.mem_cons frz_fnC frzFn_some nqQ_ro nqQ_nils List.map_nil List.map_cons expF_some xpt_own xpO_row xpO2_some xpt_agg xpt_tup xpA_some xpT_some xptL_nil xptL_cons xpC_some xpt_int xpt_bool xpt_str xpt_nils xpt_ro xpt_slv mapF2_cells nodup_one nodup_nil take_all take_all_map List.contains_nil Nat.le_refl mapF2_pts anyRo_pts anyRo_cells
variable {prim : Nat → List AV → Option AV}
set_option maxRecDepth 10000
theorem F36 : F.get 36 = some c36 := by rfl
def featV (f : Ft) (v : AV) : AV := .tup [.agg [.int .i64 f.id, .int .i64 f.kind, .int .i64 f.cls, .str f.name, v], .bool true]
def noFeat : AV := .tup [.agg [.int .i64 0, .int .i64 0, .int .i64 0, .str [], .nils], .bool false]
def refFV : Option Ft → AV
  | some f => featV f (.ex 1 (f.parts.map cell))
  | none => noFeat
def L36 : C := match c36.body with | .seq _ (.seq a _) => loopOf a | _ => .skip
def I36 (s : Sv) (id : Int) (i : Nat) (st : St) : Prop :=
  st.h.next = 2 ∧ st.t.get 2 = some (.ptr 0 0 0) ∧ st.h.get 0 = some (.row 4 [s.av] 0 false) ∧ st.t.get 1 = some (.int .i64 id) ∧ st.t.get 6 = some (.int .i64 i) ∧ st.t.get 4 = some (.ptr 1 0 0) ∧ st.t.get 5 = some (.bool false) ∧
  st.h.get 1 = some (.row 5 [[.int .i64 0, .int .i64 0, .int .i64 0, .str [], .nils]] 1 false) ∧ (s.feats.take i).find? (fun f => decide (f.id = id)) = none
def Q36 (s : Sv) (id : Int) : Ex → St → Prop
  | .exit i, st => i = 0 ∧ st.t.get 4 = some (.ptr 1 0 0) ∧ st.h.get 1 = some (.row 5 [[.int .i64 0, .int .i64 0, .int .i64 0, .str [], .nils]] 1 false) ∧ findF s id = none
  | .ret, st => ∃ x v, findF s id = some x ∧ st.t.get 4 = some (.ptr 1 0 0) ∧ st.h.get 1 = some (.row 5 [[.int .i64 x.id, .int .i64 x.kind, .int .i64 x.cls, .str x.name, v]] 1 false) ∧ st.t.get 5 = some (.bool true)
    ∧ ∃ k c, v = .own 1 k 0 x.parts.length ∧ st.h.get k = some (.row 1 (x.parts.map cell) c false)
  | _, _ => False
theorem round36 (s : Sv) (id : Int) (hl : s.feats.length ≤ maxLen) (hp : ∀ f ∈ s.feats, f.parts.length ≤ 1073741824) (i : Nat) (st : St) (hi : i ≤ s.feats.length) (hI : I36 s id i st) :
    Res ((om prim F).a L36 st) (rndP (fun s' => i < s.feats.length ∧ I36 s id (i + 1) s') (Q36 s id)) := by
  obtain ⟨t, h⟩ := st
  obtain ⟨nx, g2, r2, g1, g6, g4, g5, row, no⟩ := hI
  simp only at nx g2 r2 g1 g6 g4 g5 row no
  by_cases hlt : i < s.feats.length
  · have hx : s.feats[i]? = some s.feats[i] := List.getElem?_eq_getElem hlt
    generalize s.feats[i] = x at hx
    have hxm : (s.feats.map Ft.av)[i]? = some x.av := by simp [hx]
    have hil : (i : Int) < s.feats.length := by omega
    have hw := wrap_succ hlt hl
    have hv := hp x (List.mem_of_getElem? hx)
    clear hp
    simp only [Sv.av] at r2
    by_cases hid : x.id = id
    · have hfi : findF s id = some x := find_take hx no (by simp [hid])
      have hde : decide (x.id = id) = true := decide_eq_true hid
      clear no hid
      cases hvia : x.parts with
      | nil =>
        cases hvn : x.pn with
        | true =>
          unfold L36 loopOf c36
          repeat' (first | done | (simp -implicitDefEqProofs only [↓reduceIte, go_sem, *, ixaQ_slv hxm, Ft.av, Sv.av, I36, Q36, slv_nil]) | ((first | rw [stepG_split] | rw [cnd_split] | rw [pickQ_split]); split))
          exact ⟨x, _, rfl, rfl, 3, _, by rw [hvia]; rfl, by rw [hvia]; simp only [↓reduceIte, go_sem]; rfl⟩
        | false =>
          unfold L36 loopOf c36
          repeat' (first | done | (simp -implicitDefEqProofs only [↓reduceIte, go_sem, *, ixaQ_slv hxm, Ft.av, Sv.av, I36, Q36, slv_mt]) | ((first | rw [stepG_split] | rw [cnd_split] | rw [pickQ_split]); split))
          exact ⟨x, _, rfl, rfl, 3, _, by rw [hvia]; rfl, by rw [hvia]; simp only [↓reduceIte, go_sem]; rfl⟩
      | cons z zs =>
        have hm : ((zs.length + 1) * 8 ≤ maxL) := by rw [hvia] at hv; simp only [maxL]; simp at hv; omega
        unfold L36 loopOf c36
        repeat' (first | done | (simp -implicitDefEqProofs only [↓reduceIte, go_sem, *, ixaQ_slv hxm, Ft.av, Sv.av, I36, Q36, slv_cons]) | ((first | rw [stepG_split] | rw [cnd_split] | rw [pickQ_split]); split))
        exact ⟨x, _, rfl, rfl, 4, 3, by rw [hvia]; rfl, by rw [hvia]; simp only [↓reduceIte, go_sem]⟩
    · have hde : decide (x.id = id) = false := decide_eq_false hid
      have hfi : (s.feats.take (i + 1)).find? (fun f => decide (f.id = id)) = none := find_next hx no hde
      clear no hid
      unfold L36 loopOf c36
      repeat' (first | done | (simp -implicitDefEqProofs only [↓reduceIte, go_sem, *, ixaQ_slv hxm, Ft.av, Sv.av, I36, Q36]) | ((first | rw [stepG_split] | rw [cnd_split] | rw [pickQ_split]); split))
  · have : i = s.feats.length := by omega
    subst this
    rw [List.take_length] at no
    clear hp
    simp only [Sv.av] at r2
    unfold L36 loopOf c36
    repeat' (first | done | (simp -implicitDefEqProofs only [↓reduceIte, go_sem, *, Q36, Int.lt_irrefl]) | ((first | rw [stepG_split] | rw [cnd_split] | rw [pickQ_split]); split))
    exact no
theorem find36 (s : Sv) (id : Int) (hl : s.feats.length ≤ maxLen) (hp : ∀ f ∈ s.feats, f.parts.length ≤ 1073741824) : (om prim F).p 36 [.agg s.av, .int .i64 id] = some (refFV (findF s id)) := by
  refine call_of F36 rfl ?_
  unfold c36
  simp only [↓reduceIte, go_sem, Sv.av]
  refine (loop_up s.feats.length (I36 s id) (round36 s id hl hp) 0 _ (Nat.zero_le _) (by simp only [↓reduceIte, go_sem, I36, Sv.av]; exact ⟨rfl, rfl⟩)).mono ?_
  clear hp
  rintro e ⟨t, h⟩ hq
  cases e with
  | norm => exact hq.elim
  | exit i =>
    obtain ⟨rfl, h1, h2, h3⟩ := hq
    simp only at h1 h2 h3
    repeat' (first | done | (simp -implicitDefEqProofs only [↓reduceIte, go_sem, *, refFV, noFeat, export_eq]) | ((first | rw [stepG_split] | rw [cnd_split] | rw [pickQ_split]); split))
  | ret =>
    obtain ⟨x, v, h1, h2, h3, h4, k, c, rfl, h5⟩ := hq
    simp only at h2 h3 h4 h5
    have hlen : (x.parts.map cell).length = x.parts.length := List.length_map _
    repeat' (first | done | (simp -implicitDefEqProofs only [↓reduceIte, go_sem, *, refFV, featV, export_eq]) | ((first | rw [stepG_split] | rw [cnd_split] | rw [pickQ_split]); split))
end Go.Ab
namespace Go.Ab
attribute [local go_sem] evParts_nil evParts_cons consP_some buildQ_some bldC_some mksQ_some mksC_some fillAll_nil fillAll_cons chop_zero chop_succ rep_zero rep_succ List.flatten_cons List.flatten_nil boxQ_c boxC_eq avCells_ptr List.append_nil List.all_nil List.all_cons Bool.true_and Bool.and_true isOne_int isOne_bool isOne_str isOne_nils isOne_own isOne_ptr isOne_slv lay_nil0 lay_cons0 lay_nil lay_succ List.drop_zero List.take_succ_cons List.take_zero List.drop_succ_cons List.getElem?_cons_zero List.getElem?_cons_succ List.take_nil List.drop_nil List.nil_append List.cons_append a_skip a_exit a_ret a_seq a_block a_cond a_reg thn_norm thn_exit thn_ret blk_norm blk_ret blk_exit rg_some cnd_true cnd_false ops_nil ops_g stepQ_quiet stepQ_makes stepW_some stepW_none stepG_tt stepG_tf stepG_ft stepG_ff stepG_ttN stepG_tfN stepG_ftN stepG_ffN stepG_skip stepG_skipN qv_s ev_t ev_c bin_add bin_sub bin_mul bin_lss bin_leq bin_gtr bin_geq bin_eql bin_neq viewOld_get add_next put_next add_row add_map put_get kl_row kl_none kl_map ops_mv ops_pick ops_new0 ops_new1 ops_new2 ops_box0 ops_box1 ops_box2 ops_build ops_mks0 ops_mks1 ops_mks2 ops_bin ops_un ops_len0 ops_len1 ops_len2 ops_call0 ops_call1 ops_call2 ops_fld ops_ixa ops_ext ops_app0 ops_app1 ops_app2 ops_mm ops_ixr ops_conv ops_convs ops_nilc ops_ixs ops_ixg ops_mkf ops_bb ops_nq ops_eqs ops_ld0 ops_ld1 ops_ld2 ops_st ops_calli pickQ_true pickQ_false ldRow_one ldQ_ref ldQ_ptr cut_false cut_true binQ_some unQ_some un_not un_neg fldQ_ptr fldQ_ref extQ_tup evs_nil evs_cons consO_some lenQ_slv lenQ_ro lenQ_own lenQ_nils lenQ_str stQ_ptr stR_one avCells_agg avCells_int avCells_bool avCells_str avCells_slv avCells_own avCells_nils get_set List.length_cons List.length_nil Res_some Res_thn Res_blk seqP_norm seqP_exit seqP_ret blkP_norm blkP_exit blkP_ret rndP_norm rndP_exit rndP_ret Fin_norm Fin_ret Fin_exit rvV_ptr rvC_one evRV_t evRV_c evRVs_nil evRVs_cons ofL_nil ofL_cons tupOf_one tupOf_two exP if_true if_false not_false_eq_true not_true_eq_false decide_true decide_false Option.isSome_some eq_self and_self and_true true_and and_false false_and Nat.zero_add Nat.add_zero decide_eq_true_eq decide_eq_false_iff_not ne_eq Bool.false_eq_true Bool.true_eq_false reduceCtorEq Nat.reduceLT Nat.reduceEqDiff Nat.reduceAdd Nat.reduceSub Nat.reduceMul Nat.reduceLeDiff get_lf List.length_map mapF_nil mapF_cons mapC_some callQ_fn callR_some callS_cint callS_cbool callS_cstr frz_own frzR_row frzE_some frz_aggC frzA_some frz_int frz_bool frz_str frz_ro frz_nils frz_ref frz_slv view_get view_next viewOld_next eqsQ_agg eqC_some eqK_nil eqK_cons andO_some eq1_int eq1_bool eq1_str bbQ_some mmQ_some mm_nil mm_max mm_min convQ_some mkfQ_some convsQ_some nilcQ_ptr nilcQ_ref bin_quo bin_rem Int.reduceEq Int.reduceNe Int.reduceNeg flatA_agg flatA_int flatA_bool flatA_str flatA_nils flatA_ro flatA_slv flat_int flat_bool flat_str flat_nils flat_ro flat_slv num_int num_bool num_str all_mem_cons all_mem_nil export_flat export_tup callS_nums callS_flat callS_tup Bool.not_true Bool.not_false Bool.and_false Bool.false_and Bool.or_true Bool.true_or Bool.or_false Bool.false_or Bool.not_eq_true Bool.not_eq_false Bool.not_not Bool.not_eq_eq_eq_not Bool.not_eq_true' E0_next E0_get eq_add_one add_one_eq add_eq_add lt_add_self add_lt_add Nat.add_assoc ops_mkv mkvQ_some mkvC_some stv_int stv_bool stv_str stv_nils stv_ro stv_slv isOne_ro ops_slr0 ops_slr1 slrA_ptr slrA_ref frz_ptrC frzPt_one frzPc_some slrQ_some slrP_all stepQ_seal sealC_get slO_row slO_none slO_map seal_next callS_tupC callS_aggC callS_exC callT_nil callT_no callT_yes adp_ex adp_agg adp_tup adpL_nil adpL_cons adK_some adJ_some adA_some adT_some adp_int adp_bool adp_str adp_nils adp_ro adp_slv hasRo_int hasRo_bool hasRo_str hasRo_nils hasRo_ro hasRo_agg hasRo_tup hasRo_ex List.any_nil List.any_cons bin_seq bin_sne appQ_some appR_e_nils appR_e_own appR_cons appN_nils appN_own appO_row elems_ro elems_nils elems_own elO_row view_topD add_top0D add_top1D seal_tops E0_tops put_tops nqQ_slv List.not_mem_nil or_false or_true true_or false_or List.mem_cons frz_fnC frzFn_some nqQ_ro nqQ_nils List.map_nil List.map_cons expF_some xpt_own xpO_row xpO2_some xpt_agg xpt_tup xpA_some xpT_some xptL_nil xptL_cons xpC_some xpt_int xpt_bool xpt_str xpt_nils xpt_ro xpt_slv mapF2_cells nodup_one nodup_nil take_all take_all_map List.contains_nil Nat.le_refl mapF2_pts anyRo_pts anyRo_cells
variable {prim : Nat → List AV → Option AV}
set_option maxRecDepth 10000
theorem F42 : F.get 42 = some c42 := by rfl
theorem F43 : F.get 43 = some c43 := by rfl
def AccI (v : Option AV) (h : AH) (l : List Int) : Prop :=
  (l = [] ∧ v = some .nils) ∨ ∃ j c, j + 1 < h.next ∧ c < h.next ∧ v = some (.own 1 (j + 1) 0 l.length) ∧ h.get (j + 1) = some (.row 1 (l.map cell) c false) ∧ (j + 1) ∈ h.tops ∧ 0 < l.length
theorem export_accI {v : AV} {h : AH} {l : List Int} (ha : AccI (some v) h l) : export1 (v, h) = some (exs true 1 (l.map cell)) := by
  rcases ha with ⟨rfl, e⟩ | ⟨j, c, _, _, e, row, _, ne⟩
  · rw [Option.some.injEq] at e
    subst e
    rw [List.map_nil, exs_nil]; rfl
  · rw [Option.some.injEq] at e
    subst e
    cases l with
    | nil => cases ne
    | cons p r =>
      rw [List.map_cons, exs_cons]
      exact export_all1 row (by simp) (cells_flat (p :: r))
theorem accI_some {o : Option AV} {h : AH} {l : List Int} (ha : AccI o h l) : ∃ v, o = some v := by
  rcases ha with ⟨_, e⟩ | ⟨j, c, _, _, e, _, _, _⟩ <;> exact ⟨_, e⟩
theorem ne1 {j m : Nat} (h : j < m) : ¬ j = m ∧ ¬ j = m + 1 ∧ ¬ j = m + 2 ∧ ¬ m = j ∧ ¬ m + 1 = j ∧ ¬ m + 2 = j := by omega
theorem ne2 {c m : Nat} (h : c < m + 1) : ¬ c = m + 1 ∧ ¬ c = m + 2 ∧ ¬ c = m + 3 ∧ ¬ m + 1 = c ∧ ¬ m + 2 = c ∧ ¬ m + 3 = c := by omega
def useP (sh id : Int) (f : Ft) : Bool := decide (¬ sh = 0) && decide (shape f.kind = sh) && hasI f.parts id
def useL (sh id : Int) (f : Ft) : List Int := if useP sh id f = true then [f.id] else []
theorem use_len (sh id : Int) (l : List Ft) : (l.flatMap (useL sh id)).length ≤ l.length := by
  induction l with
  | nil => simp
  | cons x r ih =>
    rw [List.flatMap_cons, List.length_append, List.length_cons]
    have : (useL sh id x).length ≤ 1 := by unfold useL; split <;> simp
    omega
theorem fit8 {n : Nat} (h : n ≤ 1073741824) : (n + 1) * 8 ≤ maxL := le_maxL (by omega)
def QU (l : List Int) (k : Nat) : Ex → St → Prop
  | .exit i, st => i = 0 ∧ AccI (st.t.get k) st.h l
  | _, _ => False
def L42 : C := match c42.body with | .seq _ (.seq a _) => loopOf a | _ => .skip
def I42 (s : Sv) (sh id : Int) (i : Nat) (st : St) : Prop :=
  (∃ m, st.h.next = m + 1) ∧ st.t.get 3 = some (.ptr 0 0 0) ∧ st.h.get 0 = some (.row 4 [s.av] 0 false) ∧ st.t.get 1 = some (.int .i64 sh) ∧ st.t.get 2 = some (.int .i64 id) ∧ st.t.get 10 = some (slv s.tn 5 (s.feats.map Ft.av)) ∧ st.t.get 11 = some (.int .i64 s.feats.length) ∧ st.t.get 12 = some (.int .i64 i) ∧
  AccI (st.t.get 6) st.h ((s.feats.take i).flatMap (useL sh id))
theorem round42 (s : Sv) (sh id : Int) (hfl : s.feats.length ≤ 1073741824) (hp : ∀ f ∈ s.feats, f.parts.length ≤ 1073741824) (i : Nat) (st : St) (hi : i ≤ s.feats.length) (hI : I42 s sh id i st) :
    Res ((om prim F).a L42 st) (rndP (fun s' => i < s.feats.length ∧ I42 s sh id (i + 1) s') (QU (s.feats.flatMap (useL sh id)) 6)) := by
  obtain ⟨t, h⟩ := st
  obtain ⟨⟨m, nx⟩, g3, r3, g1, g2, g10, g11, g5, acc⟩ := hI
  simp only at nx g3 r3 g1 g2 g10 g11 g5 acc
  by_cases hlt : i < s.feats.length
  · have hx : s.feats[i]? = some s.feats[i] := List.getElem?_eq_getElem hlt
    generalize s.feats[i] = x at hx
    have hxm : (s.feats.map Ft.av)[i]? = some x.av := by simp [hx]
    have hil : (i : Int) < s.feats.length := by omega
    have hw := wrap_succ hlt (show s.feats.length ≤ maxLen by simp only [maxLen]; omega)
    have hpx := hp x (List.mem_of_getElem? hx)
    have k1 := shape32 (prim := prim) x.kind
    have k2 := contains84 (prim := prim) x.pn x.parts id (by simp only [maxLen]; omega)
    have hsu := flat_succ (g := useL sh id) hx
    have hle := use_len sh id (s.feats.take i)
    rw [List.length_take] at hle
    have hle2 : ((s.feats.take i).flatMap (useL sh id)).length ≤ 1073741824 := by omega
    clear hle hpx hp hfl
    simp only [Sv.av] at r3
    generalize hL : (s.feats.take i).flatMap (useL sh id) = L at acc hsu hle2
    clear hL
    have hu : useP sh id x = (decide (¬ sh = 0) && decide (shape x.kind = sh) && hasI x.parts id) := rfl
    generalize hasI x.parts id = b at k2 hu
    have hcase : (decide (¬ sh = 0) = false ∧ useP sh id x = false) ∨ (decide (¬ sh = 0) = true ∧ decide (shape x.kind = sh) = false ∧ useP sh id x = false) ∨ (decide (¬ sh = 0) = true ∧ decide (shape x.kind = sh) = true ∧ b = false ∧ useP sh id x = false) ∨ (decide (¬ sh = 0) = true ∧ decide (shape x.kind = sh) = true ∧ b = true ∧ useP sh id x = true) := by
      rw [hu]
      cases decide (¬ sh = 0) <;> cases decide (shape x.kind = sh) <;> cases b <;> simp
    clear hu
    have hNo : useP sh id x = false → useL sh id x = [] := fun h => by unfold useL; rw [h]; rfl
    have hYes : useP sh id x = true → useL sh id x = [x.id] := fun h => by unfold useL; rw [h]; rfl
    rcases hcase with ⟨q1, q4⟩ | ⟨q1, q2, q4⟩ | ⟨q1, q2, q3, q4⟩ | ⟨q1, q2, q3, q4⟩
    · clear hYes hle2
      rw [hNo q4, List.append_nil] at hsu
      clear hNo q4
      rcases acc with ⟨rfl, g4⟩ | ⟨j, c, hj, hcl, g4, row, top, ne⟩
      · unfold L42 loopOf c42
        repeat' (first | done | (simp -implicitDefEqProofs only [↓reduceIte, go_sem, *, ixaQ_slv hxm, cell, Sv.av, Ft.av, I42, AccI]) | ((first | rw [stepG_split] | rw [cnd_split] | rw [pickQ_split]); split))
        all_goals exact ⟨_, rfl⟩
      · rw [nx] at hj hcl
        obtain ⟨n1, n2, n3, n4, n5, n6⟩ := ne1 (Nat.lt_of_add_lt_add_right hj)
        obtain ⟨c1, c2, c3, c4, c5, c6⟩ := ne2 hcl
        unfold L42 loopOf c42
        repeat' (first | done | (simp -implicitDefEqProofs only [↓reduceIte, go_sem, *, ixaQ_slv hxm, cell, Sv.av, Ft.av, I42, AccI]) | ((first | rw [stepG_split] | rw [cnd_split] | rw [pickQ_split]); split))
        all_goals (refine ⟨⟨_, rfl⟩, .inr ⟨j, c, by omega, by omega, rfl, ?_, .inr top⟩⟩; simp only [↓reduceIte, go_sem, *])
    · clear hYes hle2
      rw [hNo q4, List.append_nil] at hsu
      clear hNo q4
      rcases acc with ⟨rfl, g4⟩ | ⟨j, c, hj, hcl, g4, row, top, ne⟩
      · unfold L42 loopOf c42
        repeat' (first | done | (simp -implicitDefEqProofs only [↓reduceIte, go_sem, *, ixaQ_slv hxm, cell, Sv.av, Ft.av, I42, AccI]) | ((first | rw [stepG_split] | rw [cnd_split] | rw [pickQ_split]); split))
        all_goals exact ⟨_, rfl⟩
      · rw [nx] at hj hcl
        obtain ⟨n1, n2, n3, n4, n5, n6⟩ := ne1 (Nat.lt_of_add_lt_add_right hj)
        obtain ⟨c1, c2, c3, c4, c5, c6⟩ := ne2 hcl
        unfold L42 loopOf c42
        repeat' (first | done | (simp -implicitDefEqProofs only [↓reduceIte, go_sem, *, ixaQ_slv hxm, cell, Sv.av, Ft.av, I42, AccI]) | ((first | rw [stepG_split] | rw [cnd_split] | rw [pickQ_split]); split))
        all_goals (refine ⟨⟨_, rfl⟩, .inr ⟨j, c, by omega, by omega, rfl, ?_, .inr top⟩⟩; simp only [↓reduceIte, go_sem, *])
    · clear hYes hle2
      rw [hNo q4, List.append_nil] at hsu
      clear hNo q4
      rcases acc with ⟨rfl, g4⟩ | ⟨j, c, hj, hcl, g4, row, top, ne⟩
      · unfold L42 loopOf c42
        repeat' (first | done | (simp -implicitDefEqProofs only [↓reduceIte, go_sem, *, ixaQ_slv hxm, cell, Sv.av, Ft.av, I42, AccI]) | ((first | rw [stepG_split] | rw [cnd_split] | rw [pickQ_split]); split))
        all_goals exact ⟨_, rfl⟩
      · rw [nx] at hj hcl
        obtain ⟨n1, n2, n3, n4, n5, n6⟩ := ne1 (Nat.lt_of_add_lt_add_right hj)
        obtain ⟨c1, c2, c3, c4, c5, c6⟩ := ne2 hcl
        unfold L42 loopOf c42
        repeat' (first | done | (simp -implicitDefEqProofs only [↓reduceIte, go_sem, *, ixaQ_slv hxm, cell, Sv.av, Ft.av, I42, AccI]) | ((first | rw [stepG_split] | rw [cnd_split] | rw [pickQ_split]); split))
        all_goals (refine ⟨⟨_, rfl⟩, .inr ⟨j, c, by omega, by omega, rfl, ?_, .inr top⟩⟩; simp only [↓reduceIte, go_sem, *])
    · clear hNo
      rw [hYes q4] at hsu
      clear hYes q4
      have m2 := fit8 hle2
      clear hle2
      have m0 : 8 ≤ maxL := by decide
      have hLl : (L.map cell).length = L.length := List.length_map _
      rcases acc with ⟨rfl, g4⟩ | ⟨j, c, hj, hcl, g4, row, top, ne⟩
      · unfold L42 loopOf c42
        repeat' (first | done | (simp -implicitDefEqProofs only [↓reduceIte, go_sem, *, ixaQ_slv hxm, cell, Sv.av, Ft.av, I42, AccI]) | ((first | rw [stepG_split] | rw [cnd_split] | rw [pickQ_split]); split))
        clear m0 m2
        all_goals exact ⟨⟨_, rfl⟩, m + 2, m + 3, by omega, by omega, rfl, by rw [if_pos rfl], .inl rfl⟩
      · rw [nx] at hj hcl
        obtain ⟨n1, n2, n3, n4, n5, n6⟩ := ne1 (Nat.lt_of_add_lt_add_right hj)
        obtain ⟨c1, c2, c3, c4, c5, c6⟩ := ne2 hcl
        unfold L42 loopOf c42
        repeat' (first | done | (simp -implicitDefEqProofs only [↓reduceIte, go_sem, *, ixaQ_slv hxm, cell, Sv.av, Ft.av, I42, AccI]) | ((first | rw [stepG_split] | rw [cnd_split] | rw [pickQ_split]); split))
        clear m0 m2
        all_goals exact ⟨⟨_, rfl⟩, .inr ⟨m + 2, c, by omega, by omega, by rw [List.length_append]; rfl, by rw [if_pos rfl, List.map_append]; rfl, .inl rfl, by simp⟩⟩
  · have : i = s.feats.length := by omega
    subst this
    rw [List.take_length] at acc
    simp only [Sv.av] at r3
    clear hp hfl
    unfold L42 loopOf c42
    repeat' (first | done | (simp -implicitDefEqProofs only [↓reduceIte, go_sem, *, QU, Int.lt_irrefl]) | ((first | rw [stepG_split] | rw [cnd_split] | rw [pickQ_split]); split))
def L43 : C := match c43.body with | .seq _ (.seq _ (.seq a _)) => loopOf a | _ => .skip
def I43 (s : Sv) (sh id : Int) (i : Nat) (st : St) : Prop :=
  (∃ m, st.h.next = m + 1) ∧ st.t.get 3 = some (.ptr 0 0 0) ∧ st.h.get 0 = some (.row 4 [s.av] 0 false) ∧ st.t.get 1 = some (.int .i64 sh) ∧ st.t.get 2 = some (.int .i64 id) ∧ st.t.get 8 = some (.int .i64 i) ∧
  AccI (st.t.get 7) st.h ((s.feats.take i).flatMap (useL sh id))
theorem round43 (s : Sv) (sh id : Int) (hfl : s.feats.length ≤ 1073741824) (hp : ∀ f ∈ s.feats, f.parts.length ≤ 1073741824) (i : Nat) (st : St) (hi : i ≤ s.feats.length) (hI : I43 s sh id i st) :
    Res ((om prim F).a L43 st) (rndP (fun s' => i < s.feats.length ∧ I43 s sh id (i + 1) s') (QU (s.feats.flatMap (useL sh id)) 7)) := by
  obtain ⟨t, h⟩ := st
  obtain ⟨⟨m, nx⟩, g3, r3, g1, g2, g5, acc⟩ := hI
  simp only at nx g3 r3 g1 g2 g5 acc
  by_cases hlt : i < s.feats.length
  · have hx : s.feats[i]? = some s.feats[i] := List.getElem?_eq_getElem hlt
    generalize s.feats[i] = x at hx
    have hxm : (s.feats.map Ft.av)[i]? = some x.av := by simp [hx]
    have hil : (i : Int) < s.feats.length := by omega
    have hw := wrap_succ hlt (show s.feats.length ≤ maxLen by simp only [maxLen]; omega)
    have hpx := hp x (List.mem_of_getElem? hx)
    have k1 := shape40 (prim := prim) x.kind
    have k2 := has50 (prim := prim) x.pn x.parts id (by simp only [maxLen]; omega)
    have hsu := flat_succ (g := useL sh id) hx
    have hle := use_len sh id (s.feats.take i)
    rw [List.length_take] at hle
    have hle2 : ((s.feats.take i).flatMap (useL sh id)).length ≤ 1073741824 := by omega
    clear hle hpx hp hfl
    simp only [Sv.av] at r3
    generalize hL : (s.feats.take i).flatMap (useL sh id) = L at acc hsu hle2
    clear hL
    have hu : useP sh id x = (decide (¬ sh = 0) && decide (shape x.kind = sh) && hasI x.parts id) := rfl
    generalize hasI x.parts id = b at k2 hu
    have hcase : (decide (¬ sh = 0) = false ∧ useP sh id x = false) ∨ (decide (¬ sh = 0) = true ∧ decide (shape x.kind = sh) = false ∧ useP sh id x = false) ∨ (decide (¬ sh = 0) = true ∧ decide (shape x.kind = sh) = true ∧ b = false ∧ useP sh id x = false) ∨ (decide (¬ sh = 0) = true ∧ decide (shape x.kind = sh) = true ∧ b = true ∧ useP sh id x = true) := by
      rw [hu]
      cases decide (¬ sh = 0) <;> cases decide (shape x.kind = sh) <;> cases b <;> simp
    clear hu
    have hNo : useP sh id x = false → useL sh id x = [] := fun h => by unfold useL; rw [h]; rfl
    have hYes : useP sh id x = true → useL sh id x = [x.id] := fun h => by unfold useL; rw [h]; rfl
    rcases hcase with ⟨q1, q4⟩ | ⟨q1, q2, q4⟩ | ⟨q1, q2, q3, q4⟩ | ⟨q1, q2, q3, q4⟩
    · clear hYes hle2
      rw [hNo q4, List.append_nil] at hsu
      clear hNo q4
      rcases acc with ⟨rfl, g4⟩ | ⟨j, c, hj, hcl, g4, row, top, ne⟩
      · unfold L43 loopOf c43
        repeat' (first | done | (simp -implicitDefEqProofs only [↓reduceIte, go_sem, *, ixaQ_slv hxm, cell, Sv.av, Ft.av, I43, AccI]) | ((first | rw [stepG_split] | rw [cnd_split] | rw [pickQ_split]); split))
        all_goals exact ⟨_, rfl⟩
      · rw [nx] at hj hcl
        obtain ⟨n1, n2, n3, n4, n5, n6⟩ := ne1 (Nat.lt_of_add_lt_add_right hj)
        obtain ⟨c1, c2, c3, c4, c5, c6⟩ := ne2 hcl
        unfold L43 loopOf c43
        repeat' (first | done | (simp -implicitDefEqProofs only [↓reduceIte, go_sem, *, ixaQ_slv hxm, cell, Sv.av, Ft.av, I43, AccI]) | ((first | rw [stepG_split] | rw [cnd_split] | rw [pickQ_split]); split))
        all_goals exact ⟨⟨_, rfl⟩, .inr ⟨j, c, hj, hcl, rfl, row, top⟩⟩
    · clear hYes hle2
      rw [hNo q4, List.append_nil] at hsu
      clear hNo q4
      rcases acc with ⟨rfl, g4⟩ | ⟨j, c, hj, hcl, g4, row, top, ne⟩
      · unfold L43 loopOf c43
        repeat' (first | done | (simp -implicitDefEqProofs only [↓reduceIte, go_sem, *, ixaQ_slv hxm, cell, Sv.av, Ft.av, I43, AccI]) | ((first | rw [stepG_split] | rw [cnd_split] | rw [pickQ_split]); split))
        all_goals exact ⟨_, rfl⟩
      · rw [nx] at hj hcl
        obtain ⟨n1, n2, n3, n4, n5, n6⟩ := ne1 (Nat.lt_of_add_lt_add_right hj)
        obtain ⟨c1, c2, c3, c4, c5, c6⟩ := ne2 hcl
        unfold L43 loopOf c43
        repeat' (first | done | (simp -implicitDefEqProofs only [↓reduceIte, go_sem, *, ixaQ_slv hxm, cell, Sv.av, Ft.av, I43, AccI]) | ((first | rw [stepG_split] | rw [cnd_split] | rw [pickQ_split]); split))
        all_goals exact ⟨⟨_, rfl⟩, .inr ⟨j, c, hj, hcl, rfl, row, top⟩⟩
    · clear hYes hle2
      rw [hNo q4, List.append_nil] at hsu
      clear hNo q4
      rcases acc with ⟨rfl, g4⟩ | ⟨j, c, hj, hcl, g4, row, top, ne⟩
      · unfold L43 loopOf c43
        repeat' (first | done | (simp -implicitDefEqProofs only [↓reduceIte, go_sem, *, ixaQ_slv hxm, cell, Sv.av, Ft.av, I43, AccI]) | ((first | rw [stepG_split] | rw [cnd_split] | rw [pickQ_split]); split))
        all_goals exact ⟨_, rfl⟩
      · rw [nx] at hj hcl
        obtain ⟨n1, n2, n3, n4, n5, n6⟩ := ne1 (Nat.lt_of_add_lt_add_right hj)
        obtain ⟨c1, c2, c3, c4, c5, c6⟩ := ne2 hcl
        unfold L43 loopOf c43
        repeat' (first | done | (simp -implicitDefEqProofs only [↓reduceIte, go_sem, *, ixaQ_slv hxm, cell, Sv.av, Ft.av, I43, AccI]) | ((first | rw [stepG_split] | rw [cnd_split] | rw [pickQ_split]); split))
        all_goals exact ⟨⟨_, rfl⟩, .inr ⟨j, c, hj, hcl, rfl, row, top⟩⟩
    · clear hNo
      rw [hYes q4] at hsu
      clear hYes q4
      have m2 := fit8 hle2
      clear hle2
      have m0 : 8 ≤ maxL := by decide
      have hLl : (L.map cell).length = L.length := List.length_map _
      rcases acc with ⟨rfl, g4⟩ | ⟨j, c, hj, hcl, g4, row, top, ne⟩
      · unfold L43 loopOf c43
        repeat' (first | done | (simp -implicitDefEqProofs only [↓reduceIte, go_sem, *, ixaQ_slv hxm, cell, Sv.av, Ft.av, I43, AccI]) | ((first | rw [stepG_split] | rw [cnd_split] | rw [pickQ_split]); split))
        clear m0 m2
        all_goals exact ⟨⟨_, rfl⟩, m + 1, m + 2, by omega, by omega, rfl, by rw [if_pos rfl], .inl rfl⟩
      · rw [nx] at hj hcl
        obtain ⟨n1, n2, n3, n4, n5, n6⟩ := ne1 (Nat.lt_of_add_lt_add_right hj)
        obtain ⟨c1, c2, c3, c4, c5, c6⟩ := ne2 hcl
        unfold L43 loopOf c43
        repeat' (first | done | (simp -implicitDefEqProofs only [↓reduceIte, go_sem, *, ixaQ_slv hxm, cell, Sv.av, Ft.av, I43, AccI]) | ((first | rw [stepG_split] | rw [cnd_split] | rw [pickQ_split]); split))
        clear m0 m2
        all_goals exact ⟨⟨_, rfl⟩, .inr ⟨m + 1, c, by omega, by omega, by rw [List.length_append]; rfl, by rw [if_pos rfl, List.map_append]; rfl, .inl rfl, by simp⟩⟩
  · have : i = s.feats.length := by omega
    subst this
    rw [List.take_length] at acc
    simp only [Sv.av] at r3
    clear hp hfl
    unfold L43 loopOf c43
    repeat' (first | done | (simp -implicitDefEqProofs only [↓reduceIte, go_sem, *, QU, Int.lt_irrefl]) | ((first | rw [stepG_split] | rw [cnd_split] | rw [pickQ_split]); split))
def usersL (s : Sv) (sh id : Int) : List Int := s.feats.flatMap (useL sh id)
theorem users42 (s : Sv) (sh id : Int) (hfl : s.feats.length ≤ 1073741824) (hp : ∀ f ∈ s.feats, f.parts.length ≤ 1073741824) : (om prim F).p 42 [.agg s.av, .int .i64 sh, .int .i64 id] = some (exs true 1 ((usersL s sh id).map cell)) := by
  refine call_of F42 rfl ?_
  have hr := round42 (prim := prim) s sh id hfl hp
  clear hp hfl
  unfold c42
  simp only [↓reduceIte, go_sem, Sv.av]
  refine (loop_up s.feats.length (I42 s sh id) hr 0 _ (Nat.zero_le _) (by simp only [↓reduceIte, go_sem, I42, Sv.av]; exact ⟨⟨_, rfl⟩, rfl, .inl ⟨rfl, rfl⟩⟩)).mono ?_
  clear hr
  rintro e ⟨t, h⟩ hq
  cases e with
  | norm => exact hq.elim
  | ret => exact hq.elim
  | exit i =>
    obtain ⟨rfl, ha⟩ := hq
    simp only at ha
    obtain ⟨v, hv⟩ := accI_some ha
    rw [hv] at ha
    have hx := export_accI ha
    clear ha
    repeat' (first | done | (simp -implicitDefEqProofs only [↓reduceIte, go_sem, *, usersL]) | ((first | rw [stepG_split] | rw [cnd_split] | rw [pickQ_split]); split))
theorem users43 (s : Sv) (sh id : Int) (hfl : s.feats.length ≤ 1073741824) (hp : ∀ f ∈ s.feats, f.parts.length ≤ 1073741824) : (om prim F).p 43 [.agg s.av, .int .i64 sh, .int .i64 id] = some (exs true 1 ((usersL s sh id).map cell)) := by
  refine call_of F43 rfl ?_
  have hr := round43 (prim := prim) s sh id hfl hp
  clear hp hfl
  unfold c43
  simp only [↓reduceIte, go_sem, Sv.av]
  refine (loop_up s.feats.length (I43 s sh id) hr 0 _ (Nat.zero_le _) (by simp only [↓reduceIte, go_sem, I43, Sv.av]; exact ⟨⟨_, rfl⟩, rfl, .inl ⟨rfl, rfl⟩⟩)).mono ?_
  clear hr
  rintro e ⟨t, h⟩ hq
  cases e with
  | norm => exact hq.elim
  | ret => exact hq.elim
  | exit i =>
    obtain ⟨rfl, ha⟩ := hq
    simp only at ha
    obtain ⟨v, hv⟩ := accI_some ha
    rw [hv] at ha
    have hx := export_accI ha
    clear ha
    repeat' (first | done | (simp -implicitDefEqProofs only [↓reduceIte, go_sem, *, usersL]) | ((first | rw [stepG_split] | rw [cnd_split] | rw [pickQ_split]); split))
end Go.Ab
namespace Go.Ab
variable {prim : Nat → List AV → Option AV}
set_option maxRecDepth 10000
def ld3 (P : CallP) (J : CallI) (n0 : Nat) (sf : List Nat) (d : Option Nat) (r : List OpI) (t : Tr AV) (h : AH) (agg : Bool) (k : Nat) (v : Option AV) : Option St := match v with
  | some (.ptr id i j) => if id < n0 then stepQ P J n0 (id :: sf) 3 d r t h (ldRow agg k i j (h.get id)) else none
  | v => stepQ P J n0 sf 3 d r t h (ldQ h.get agg k v)
def stepS (P : CallP) (J : CallI) (n0 : Nat) (sf : List Nat) (d : Option Nat) (r : List OpI) (t : Tr AV) (q : Option (AV × AH)) : Option St := match q with
  | some q => ops P J n0 sf r ⟨putD t d q.1, q.2⟩
  | none => none
def spC : Option AObj → Option AObj → Prop
  | some (.row _ _ c' _), some (.row _ _ c _) => ¬ c = c'
  | _, _ => False
def spP (h : AH) (p : Option AV) (id : Nat) : Prop := match p with
  | some (.ptr id' _ _) => spC (h.get id') (h.get id)
  | _ => False
instance (a b : Option AObj) : Decidable (spC a b) := by unfold spC; split <;> infer_instance
instance (h : AH) (p : Option AV) (id : Nat) : Decidable (spP h p id) := by unfold spP; split <;> infer_instance
def spAll (h : AH) (p : Option AV) : List Nat → Prop
  | [] => True
  | y :: l => spP h p y ∧ spAll h p l
instance spAllD (h : AH) (p : Option AV) : (l : List Nat) → Decidable (spAll h p l)
  | [] => isTrue trivial
  | y :: l => have := spAllD h p l; inferInstanceAs (Decidable (spP h p y ∧ spAll h p l))
theorem spAll_nil (h : AH) (p : Option AV) : spAll h p [] = True := rfl
theorem spAll_cons (h : AH) (p : Option AV) (y : Nat) (l : List Nat) : spAll h p (y :: l) = (spP h p y ∧ spAll h p l) := rfl
theorem spAll_iff (h : AH) (p : Option AV) (l : List Nat) : spAll h p l ↔ ∀ id ∈ l, spP h p id := by
  induction l with
  | nil => simp [spAll]
  | cons y l ih => simp [spAll, ih]
theorem spares_st (h : AH) (t : Nat → Option AV) (k : Nat) (x v : Opd) (id : Nat) : spares h t (.st k x v) id = decide (spP h (ev t x) id) := by
  rw [Bool.eq_iff_iff, decide_eq_true_iff]
  unfold spares spP
  simp only
  generalize ev t x = a
  cases a with
  | none => simp
  | some a => cases a with
    | ptr id' i j =>
      simp only
      generalize h.get id' = o1
      generalize h.get id = o2
      unfold spC
      rcases o1 with _ | (_ | _ | _ | _) <;> rcases o2 with _ | (_ | _ | _ | _) <;> simp [beq_dec]
    | _ => simp
section
variable {P : CallP} {J : CallI} {n0 : Nat} {sf : List Nat} {fl : Nat} {d : Option Nat} {r : List OpI} {t : Tr AV} {h : AH}
theorem ops_ld3 {agg : Bool} {k : Nat} {x : Opd} : ops P J n0 sf (⟨d, none, 3, .ld agg k x⟩ :: r) ⟨t, h⟩ = ld3 P J n0 sf d r t h agg k (ev t.get x) := by
  have hq : qop P h.view t.get (.ld agg k x) = ldQ h.get agg k (ev t.get x) := q_ld ..
  have b33 : Nat.beq 3 3 = true := rfl
  have b32 : Nat.beq 3 2 = false := rfl
  have b30 : Nat.beq 3 0 = false := rfl
  have hst : ∀ (sf : List Nat) (q : Option QR), (match (match q with
      | some q => bif q.sl.isEmpty then some ⟨putD t d q.v, h.add q.os q.used⟩
        else none
      | none => (none : Option St)) with | some s' => ops P J n0 sf r s' | none => none) = stepQ P J n0 sf 3 d r t h q := by
    intro sf q
    cases q with
    | none => rfl
    | some q => simp only [stepQ, b30]; cases q.sl.isEmpty <;> rfl
  rw [ops]
  simp only [wantI, isW, Bool.not_false, Bool.true_or, Bool.true_and, op1, cond_false, softOf, b33, b32, b30, cond_true, hq]
  cases ev t.get x with
  | none => simp only [List.all_nil, cond_true, List.nil_append]; exact hst sf (ldQ h.get agg k none)
  | some a => cases a with
    | ptr id i j =>
      simp only [List.all_cons, List.all_nil, Bool.and_true, ld3]
      by_cases hlt : id < n0
      · have : Nat.blt id n0 = true := by simpa [Nat.blt_eq] using hlt
        simp only [this, cond_true, if_pos hlt, List.cons_append, List.nil_append]; exact hst _ (ldQ h.get agg k (some (.ptr id i j)))
      · have : Nat.blt id n0 = false := by rw [Bool.eq_false_iff]; simpa [Nat.blt_eq] using hlt
        simp only [this, cond_false, if_neg hlt]
    | ref cs j => simp only [List.all_nil, cond_true, List.nil_append]; exact hst sf (ldQ h.get agg k (some (.ref cs j)))
    | _ => rfl
theorem ops_st1 {y : Nat} {k : Nat} {x v : Opd} (hfl : Nat.beq fl 3 = false) : ops P J n0 (y :: sf) (⟨d, none, fl, .st k x v⟩ :: r) ⟨t, h⟩ = if spAll h (ev t.get x) (y :: sf) then stepS P J n0 (y :: sf) d r t (stQ h k (ev t.get x) (ev t.get v)) else none := by
  rw [ops]
  have hs : softOf t.get ⟨d, none, fl, .st k x v⟩ = [] := by simp only [softOf, hfl, cond_false]
  have ha : (y :: sf).all (spares h t.get (.st k x v)) = decide (spAll h (ev t.get x) (y :: sf)) := by
    rw [Bool.eq_iff_iff, decide_eq_true_iff, spAll_iff]
    simp [List.all_eq_true, spares_st]
  simp only [wantI, hs, isW, Bool.not_true, Bool.false_or, List.all_nil, Bool.and_true, op1, cond_true, ha, w_st, List.nil_append]
  by_cases hc : spAll h (ev t.get x) (y :: sf)
  · rw [decide_eq_true hc, if_pos hc]
    cases stQ h k (ev t.get x) (ev t.get v) with
    | none => rfl
    | some q => rfl
  · rw [decide_eq_false hc, if_neg hc]; rfl
theorem ops_st1_0 {y : Nat} {k : Nat} {x v : Opd} : ops P J n0 (y :: sf) (⟨d, none, 0, .st k x v⟩ :: r) ⟨t, h⟩ = if spAll h (ev t.get x) (y :: sf) then stepS P J n0 (y :: sf) d r t (stQ h k (ev t.get x) (ev t.get v)) else none := ops_st1 rfl
theorem ld3_ptr {agg : Bool} {k id i j : Nat} : ld3 P J n0 sf d r t h agg k (some (.ptr id i j)) = if id < n0 then stepQ P J n0 (id :: sf) 3 d r t h (ldRow agg k i j (h.get id)) else none := rfl
theorem stepS_some {v : AV} {h' : AH} : stepS P J n0 sf none r t (some (v, h')) = ops P J n0 sf r ⟨t, h'⟩ := rfl
end
theorem spP_ptr (h : AH) (id' i j id : Nat) : spP h (some (.ptr id' i j)) id = spC (h.get id') (h.get id) := rfl
theorem spC_row (k' : Nat) (es' : List (List AV)) (c' : Nat) (s' : Bool) (k : Nat) (es : List (List AV)) (c : Nat) (s : Bool) : spC (some (.row k' es' c' s')) (some (.row k es c s)) = ¬ c = c' := rfl
theorem ixaQ_own {k id b n i : Nat} {kk : IntKind} (h : i < n) : ixaQ k (some (.own k id b n)) (some (.int kk (i : Int))) = some ⟨.ptr id (b + i) 0, [], none, []⟩ := by
  simp [ixaQ, idx_nat, h]
theorem ixaQ_own0 {k id b n : Nat} {kk : IntKind} (h : 0 < n) : ixaQ k (some (.own k id b n)) (some (.int kk 0)) = some ⟨.ptr id b 0, [], none, []⟩ := ixaQ_own (i := 0) h
theorem ldRow_at {es : List (List AV)} {i : Nat} {cs : List AV} (h : es[i]? = some cs) (agg : Bool) (k j k' c : Nat) (s : Bool) : ldRow agg k i j (some (.row k' es c s)) = qv (cut agg k cs j) := by
  simp only [ldRow, h]
theorem callS_nilsC (nx : Nat) (cl : List Nat) : callS nx cl (some .nils) = callT cl (hasRo 8 .nils) (adp nx 4 .nils) := callS_T ..
theorem ldRow_head (agg : Bool) (k j k' : Nat) (cs : List AV) (es : List (List AV)) (c : Nat) (s : Bool) : ldRow agg k 0 j (some (.row k' (cs :: es) c s)) = qv (cut agg k cs j) := rfl
attribute [local go_sem] ldRow_head callS_nilsC ops_ld3 ops_st1_0 ld3_ptr stepS_some spP_ptr spC_row spAll_nil spAll_cons
end Go.Ab
namespace Go.Ab
attribute [local go_sem] evParts_nil evParts_cons consP_some buildQ_some bldC_some mksQ_some mksC_some fillAll_nil fillAll_cons chop_zero chop_succ rep_zero rep_succ List.flatten_cons List.flatten_nil boxQ_c boxC_eq avCells_ptr List.append_nil List.all_nil List.all_cons Bool.true_and Bool.and_true isOne_int isOne_bool isOne_str isOne_nils isOne_own isOne_ptr isOne_slv lay_nil0 lay_cons0 lay_nil lay_succ List.drop_zero List.take_succ_cons List.take_zero List.drop_succ_cons List.getElem?_cons_zero List.getElem?_cons_succ List.take_nil List.drop_nil List.nil_append List.cons_append a_skip a_exit a_ret a_seq a_block a_cond a_reg thn_norm thn_exit thn_ret blk_norm blk_ret blk_exit rg_some cnd_true cnd_false ops_nil ops_g stepQ_quiet stepQ_makes stepW_some stepW_none stepG_tt stepG_tf stepG_ft stepG_ff stepG_ttN stepG_tfN stepG_ftN stepG_ffN stepG_skip stepG_skipN qv_s ev_t ev_c bin_add bin_sub bin_mul bin_lss bin_leq bin_gtr bin_geq bin_eql bin_neq viewOld_get add_next put_next add_row add_map put_get kl_row kl_none kl_map ops_mv ops_pick ops_new0 ops_new1 ops_new2 ops_box0 ops_box1 ops_box2 ops_build ops_mks0 ops_mks1 ops_mks2 ops_bin ops_un ops_len0 ops_len1 ops_len2 ops_call0 ops_call1 ops_call2 ops_fld ops_ixa ops_ext ops_app0 ops_app1 ops_app2 ops_mm ops_ixr ops_conv ops_convs ops_nilc ops_ixs ops_ixg ops_mkf ops_bb ops_nq ops_eqs ops_ld0 ops_ld1 ops_ld2 ops_st ops_calli pickQ_true pickQ_false ldRow_one ldQ_ref ldQ_ptr cut_false cut_true binQ_some unQ_some un_not un_neg fldQ_ptr fldQ_ref extQ_tup evs_nil evs_cons consO_some lenQ_slv lenQ_ro lenQ_own lenQ_nils lenQ_str stQ_ptr stR_one avCells_agg avCells_int avCells_bool avCells_str avCells_slv avCells_own avCells_nils get_set List.length_cons List.length_nil Res_some Res_thn Res_blk seqP_norm seqP_exit seqP_ret blkP_norm blkP_exit blkP_ret rndP_norm rndP_exit rndP_ret Fin_norm Fin_ret Fin_exit rvV_ptr rvC_one evRV_t evRV_c evRVs_nil evRVs_cons ofL_nil ofL_cons tupOf_one tupOf_two exP if_true if_false not_false_eq_true not_true_eq_false decide_true decide_false Option.isSome_some eq_self and_self and_true true_and and_false false_and Nat.zero_add Nat.add_zero decide_eq_true_eq decide_eq_false_iff_not ne_eq Bool.false_eq_true Bool.true_eq_false reduceCtorEq Nat.reduceLT Nat.reduceEqDiff Nat.reduceAdd Nat.reduceSub Nat.reduceMul Nat.reduceLeDiff get_lf List.length_map mapF_nil mapF_cons mapC_some callQ_fn callR_some callS_cint callS_cbool callS_cstr frz_own frzR_row frzE_some frz_aggC frzA_some frz_int frz_bool frz_str frz_ro frz_nils frz_ref frz_slv view_get view_next viewOld_next eqsQ_agg eqC_some eqK_nil eqK_cons andO_some eq1_int eq1_bool eq1_str bbQ_some mmQ_some mm_nil mm_max mm_min convQ_some mkfQ_some convsQ_some nilcQ_ptr nilcQ_ref bin_quo bin_rem Int.reduceEq Int.reduceNe Int.reduceNeg flatA_agg flatA_int flatA_bool flatA_str flatA_nils flatA_ro flatA_slv flat_int flat_bool flat_str flat_nils flat_ro flat_slv num_int num_bool num_str all_mem_cons all_mem_nil export_flat export_tup callS_nums callS_flat callS_tup Bool.not_true Bool.not_false Bool.and_false Bool.false_and Bool.or_true Bool.true_or Bool.or_false Bool.false_or Bool.not_eq_true Bool.not_eq_false Bool.not_not Bool.not_eq_eq_eq_not Bool.not_eq_true' E0_next E0_get eq_add_one add_one_eq add_eq_add lt_add_self add_lt_add Nat.add_assoc ops_mkv mkvQ_some mkvC_some stv_int stv_bool stv_str stv_nils stv_ro stv_slv isOne_ro ops_slr0 ops_slr1 slrA_ptr slrA_ref frz_ptrC frzPt_one frzPc_some slrQ_some slrP_all stepQ_seal sealC_get slO_row slO_none slO_map seal_next callS_tupC callS_aggC callS_exC callT_nil callT_no callT_yes adp_ex adp_agg adp_tup adpL_nil adpL_cons adK_some adJ_some adA_some adT_some adp_int adp_bool adp_str adp_nils adp_ro adp_slv hasRo_int hasRo_bool hasRo_str hasRo_nils hasRo_ro hasRo_agg hasRo_tup hasRo_ex List.any_nil List.any_cons bin_seq bin_sne appQ_some appR_e_nils appR_e_own appR_cons appN_nils appN_own appO_row elems_ro elems_nils elems_own elO_row view_topD add_top0D add_top1D seal_tops E0_tops put_tops nqQ_slv List.not_mem_nil or_false or_true true_or false_or List.mem_cons frz_fnC frzFn_some nqQ_ro nqQ_nils List.map_nil List.map_cons expF_some xpt_own xpO_row xpO2_some xpt_agg xpt_tup xpA_some xpT_some xptL_nil xptL_cons xpC_some xpt_int xpt_bool xpt_str xpt_nils xpt_ro xpt_slv mapF2_cells nodup_one nodup_nil take_all take_all_map List.contains_nil Nat.le_refl mapF2_pts anyRo_pts anyRo_cells ldRow_head callS_nilsC ops_ld3 ops_st1_0 ld3_ptr stepS_some spP_ptr spC_row spAll_nil spAll_cons
variable {prim : Nat → List AV → Option AV}
set_option maxRecDepth 10000
theorem F37 : F.get 37 = some c37 := by rfl
theorem F38 : F.get 38 = some c38 := by rfl
structure Bb where
  a : Int
  b : Int
  c : Int
  d : Int
def Bb.av (x : Bb) : List AV := [.int .i64 x.a, .int .i64 x.b, .int .i64 x.c, .int .i64 x.d]
def Bb.step (x : Bb) (p : Pt) : Bb := ⟨min x.a p.x, min x.b p.y, max x.c p.x, max x.d p.y⟩
def Bb.of (p : Pt) : Bb := ⟨p.x, p.y, p.x, p.y⟩
theorem fold_succ {α β : Type} {l : List α} {g : β → α → β} {z : β} {i : Nat} {x : α} (hx : l[i]? = some x) : (l.take (i + 1)).foldl g z = g ((l.take i).foldl g z) x := by
  rw [List.take_add_one, hx, List.foldl_append]; rfl
def L37 : C := match c37.body with | .seq _ (.seq _ (.seq _ (.seq _ (.seq _ (.seq _ (.seq a _)))))) => loopOf a | _ => .skip
def own2 (v : Option AV) (h : AH) (m : Nat) (l : List Pt) : Prop := ∃ j d, j < m ∧ d < m ∧ v = some (.own 2 (j + 2) 0 l.length) ∧ h.get (j + 2) = some (.row 2 (l.map Pt.av) (d + 2) false)
def I37 (l : List Pt) (z : Bb) (i : Nat) (st : St) : Prop :=
  (∃ m, st.h.next = m + 2 ∧ own2 (st.t.get 50) st.h m l) ∧ st.t.get 51 = some (.int .i64 l.length) ∧ st.t.get 52 = some (.int .i64 i) ∧ st.t.get 4 = some (.ptr 1 0 0) ∧ st.h.get 1 = some (.row 4 [((l.take i).foldl Bb.step z).av] 1 false)
def Q37 (l : List Pt) (z : Bb) : Ex → St → Prop
  | .exit i, st => i = 0 ∧ st.t.get 4 = some (.ptr 1 0 0) ∧ st.h.get 1 = some (.row 4 [(l.foldl Bb.step z).av] 1 false)
  | _, _ => False
theorem round37 (l : List Pt) (z : Bb) (hl : l.length ≤ maxLen) (i : Nat) (st : St) (hi : i ≤ l.length) (hI : I37 l z i st) :
    Res ((om prim F).a L37 st) (rndP (fun s' => i < l.length ∧ I37 l z (i + 1) s') (Q37 l z)) := by
  obtain ⟨t, h⟩ := st
  obtain ⟨⟨m, nx, j, d, hj, hd, g50, row⟩, g51, g52, g4, r4⟩ := hI
  simp only at nx g50 row g51 g52 g4 r4
  by_cases hlt : i < l.length
  · have hx : l[i]? = some l[i] := List.getElem?_eq_getElem hlt
    generalize l[i] = x at hx
    have hxm : (l.map Pt.av)[i]? = some x.av := by simp [hx]
    have hil : (i : Int) < l.length := by omega
    have hw := wrap_succ hlt hl
    have hfs := fold_succ (g := Bb.step) (z := z) hx
    generalize (l.take i).foldl Bb.step z = b at r4 hfs
    have hLl : (l.map Pt.av).length = l.length := List.length_map _
    obtain ⟨n1, n2, n3, n4, n5, n6⟩ := ne_facts hj
    obtain ⟨c1, c2, c3, c4, c5, c6⟩ := ne_facts hd
    simp only [Bb.av] at r4
    unfold L37 loopOf c37
    repeat' (first | done | (simp -implicitDefEqProofs only [↓reduceIte, go_sem, *, ixaQ_own hlt, ldRow_at hxm, Pt.av, I37, Bb.av, Bb.step, own2]) | ((first | rw [stepG_split] | rw [cnd_split] | rw [pickQ_split]); split))
    exact ⟨m + 1, rfl, j, d, by omega, by omega, rfl, by simp only [↓reduceIte, go_sem, *]⟩
  · have : i = l.length := by omega
    subst this
    rw [List.take_length] at r4
    unfold L37 loopOf c37
    repeat' (first | done | (simp -implicitDefEqProofs only [↓reduceIte, go_sem, *, Q37, Int.lt_irrefl]) | ((first | rw [stepG_split] | rw [cnd_split] | rw [pickQ_split]); split))
def bboxV : List Pt → AV
  | [] => .tup [.agg [.int .i64 0, .int .i64 0, .int .i64 0, .int .i64 0], .bool false]
  | p :: r => .tup [.agg ((p :: r).foldl Bb.step (Bb.of p)).av, .bool true]
def bndV (s : Sv) (id : Int) : AV := match findF s id with
  | none => bboxV []
  | some f => bboxV (refPts s f)
theorem bounds37 (s : Sv) (id : Int) (ok : OkB s) (hp : ∀ f ∈ s.feats, f.parts.length ≤ 1073741824) (hn : ∀ f ∈ s.feats, (ptsOf s f).length ≤ maxLen) : (om prim F).p 37 [.agg s.av, .int .i64 id] = some (bndV s id) := by
  refine call_of F37 rfl ?_
  have h := find31 (prim := prim) s id ok.ok.tl hp
  unfold bndV
  cases hf : findF s id with
  | none =>
    rw [hf] at h
    simp only [findFV, Sv.av] at h
    simp only [bboxV]
    clear hp hn ok
    unfold c37
    repeat' (first | done | (simp -implicitDefEqProofs only [↓reduceIte, go_sem, *, Sv.av, export_eq]) | ((first | rw [stepG_split] | rw [cnd_split] | rw [pickQ_split]); split))
  | some f =>
    rw [hf] at h
    simp only [findFV, Sv.av] at h
    simp only
    have hm : f ∈ s.feats := List.mem_of_find?_eq_some hf
    have hpl := hp f hm
    have k1 := shape32 (prim := prim) f.kind
    have hnf := hn f hm
    have hrl : (f.parts.map cell).length = f.parts.length := List.length_map _
    have hs : ∀ l, slv false 1 l = .ro 1 l := fun l => by simp [slv]
    have k2 := points83 (prim := prim) s f ok hpl
    have k3 := points83 (prim := prim) s { f with pn := false } ok hpl
    have hpt : ptsOf s { f with pn := false } = ptsOf s f := rfl
    rw [hpt] at k3
    simp only [Ft.av, Sv.av, hs] at k2 k3
    clear hp hn ok hm hf hs hpt
    by_cases h0 : shape f.kind = 0
    · have d0 : decide (shape f.kind = 0) = true := decide_eq_true h0
      have e : refPts s f = [] := by unfold refPts; rw [if_pos h0]
      rw [e]
      clear h0 e k2 k3
      simp only [bboxV]
      rcases exs_cases f.pn 1 (f.parts.map cell) with ⟨e1, -⟩ | ⟨e1, -, -⟩ <;> rw [e1] at h <;> unfold c37
      all_goals repeat' (first | done | (simp -implicitDefEqProofs only [↓reduceIte, go_sem, *, Sv.av, export_eq]) | ((first | rw [stepG_split] | rw [cnd_split] | rw [pickQ_split]); split))
    · have d0 : decide (shape f.kind = 0) = false := decide_eq_false h0
      have e : refPts s f = ptsOf s f := by unfold refPts; rw [if_neg h0]
      rw [e]
      clear h0 e
      generalize ptsOf s f = l at k2 k3 hnf ⊢
      rcases exs_cases f.pn 1 (f.parts.map cell) with ⟨e1, -⟩ | ⟨e1, e2, -⟩
      · rw [e1] at h
        clear k2
        cases l with
        | nil =>
          rw [List.map_nil, exs_nil] at k3
          simp only [bboxV]
          unfold c37
          repeat' (first | done | (simp -implicitDefEqProofs only [↓reduceIte, go_sem, *, Sv.av, export_eq]) | ((first | rw [stepG_split] | rw [cnd_split] | rw [pickQ_split]); split))
        | cons p r =>
          rw [List.map_cons, exs_cons] at k3
          simp only [bboxV]
          have hz : 0 < r.length + 1 := Nat.succ_pos _
          have hrp : (r.map Pt.av).length = r.length := List.length_map _
          have hd : decide (((r.length + 1 : Nat) : Int) = 0) = false := decide_eq_false (by omega)
          unfold c37
          repeat' (first | done | (simp -implicitDefEqProofs only [↓reduceIte, go_sem, *, Sv.av, ixaQ_own0 hz, Pt.av]) | ((first | rw [stepG_split] | rw [cnd_split] | rw [pickQ_split]); split))
          refine (loop_up (p :: r).length (I37 (p :: r) (Bb.of p)) (round37 (p :: r) (Bb.of p) hnf) 0 _ (Nat.zero_le _) ?_).mono ?_
          · simp only [↓reduceIte, go_sem, I37, own2]
            exact ⟨⟨3, rfl, 2, 2, by omega, by omega, rfl, by simp only [↓reduceIte, go_sem]; rfl⟩, rfl, rfl⟩
          · rintro e ⟨t, h'⟩ hq
            clear h k3 k1
            cases e with
            | norm => exact hq.elim
            | ret => exact hq.elim
            | exit i =>
              obtain ⟨rfl, h1, h2⟩ := hq
              simp only [Bb.av] at h1 h2
              repeat' (first | done | (simp -implicitDefEqProofs only [↓reduceIte, go_sem, *, Bb.av, export_eq]) | ((first | rw [stepG_split] | rw [cnd_split] | rw [pickQ_split]); split))
      · rw [e1] at h
        rw [e2] at k2
        clear k3
        cases l with
        | nil =>
          rw [List.map_nil, exs_nil] at k2
          simp only [bboxV]
          unfold c37
          repeat' (first | done | (simp -implicitDefEqProofs only [↓reduceIte, go_sem, *, Sv.av, export_eq]) | ((first | rw [stepG_split] | rw [cnd_split] | rw [pickQ_split]); split))
        | cons p r =>
          rw [List.map_cons, exs_cons] at k2
          simp only [bboxV]
          have hz : 0 < r.length + 1 := Nat.succ_pos _
          have hrp : (r.map Pt.av).length = r.length := List.length_map _
          have hd : decide (((r.length + 1 : Nat) : Int) = 0) = false := decide_eq_false (by omega)
          unfold c37
          repeat' (first | done | (simp -implicitDefEqProofs only [↓reduceIte, go_sem, *, Sv.av, ixaQ_own0 hz, Pt.av]) | ((first | rw [stepG_split] | rw [cnd_split] | rw [pickQ_split]); split))
          refine (loop_up (p :: r).length (I37 (p :: r) (Bb.of p)) (round37 (p :: r) (Bb.of p) hnf) 0 _ (Nat.zero_le _) ?_).mono ?_
          · simp only [↓reduceIte, go_sem, I37, own2]
            exact ⟨⟨2, rfl, 1, 1, by omega, by omega, rfl, by simp only [↓reduceIte, go_sem]; rfl⟩, rfl, rfl⟩
          · rintro e ⟨t, h'⟩ hq
            clear h k2 k1
            cases e with
            | norm => exact hq.elim
            | ret => exact hq.elim
            | exit i =>
              obtain ⟨rfl, h1, h2⟩ := hq
              simp only [Bb.av] at h1 h2
              repeat' (first | done | (simp -implicitDefEqProofs only [↓reduceIte, go_sem, *, Bb.av, export_eq]) | ((first | rw [stepG_split] | rw [cnd_split] | rw [pickQ_split]); split))
end Go.Ab
namespace Go.Ab
attribute [local go_sem] evParts_nil evParts_cons consP_some buildQ_some bldC_some mksQ_some mksC_some fillAll_nil fillAll_cons chop_zero chop_succ rep_zero rep_succ List.flatten_cons List.flatten_nil boxQ_c boxC_eq avCells_ptr List.append_nil List.all_nil List.all_cons Bool.true_and Bool.and_true isOne_int isOne_bool isOne_str isOne_nils isOne_own isOne_ptr isOne_slv lay_nil0 lay_cons0 lay_nil lay_succ List.drop_zero List.take_succ_cons List.take_zero List.drop_succ_cons List.getElem?_cons_zero List.getElem?_cons_succ List.take_nil List.drop_nil List.nil_append List.cons_append a_skip a_exit a_ret a_seq a_block a_cond a_reg thn_norm thn_exit thn_ret blk_norm blk_ret blk_exit rg_some cnd_true cnd_false ops_nil ops_g stepQ_quiet stepQ_makes stepW_some stepW_none stepG_tt stepG_tf stepG_ft stepG_ff stepG_ttN stepG_tfN stepG_ftN stepG_ffN stepG_skip stepG_skipN qv_s ev_t ev_c bin_add bin_sub bin_mul bin_lss bin_leq bin_gtr bin_geq bin_eql bin_neq viewOld_get add_next put_next add_row add_map put_get kl_row kl_none kl_map ops_mv ops_pick ops_new0 ops_new1 ops_new2 ops_box0 ops_box1 ops_box2 ops_build ops_mks0 ops_mks1 ops_mks2 ops_bin ops_un ops_len0 ops_len1 ops_len2 ops_call0 ops_call1 ops_call2 ops_fld ops_ixa ops_ext ops_app0 ops_app1 ops_app2 ops_mm ops_ixr ops_conv ops_convs ops_nilc ops_ixs ops_ixg ops_mkf ops_bb ops_nq ops_eqs ops_ld0 ops_ld1 ops_ld2 ops_st ops_calli pickQ_true pickQ_false ldRow_one ldQ_ref ldQ_ptr cut_false cut_true binQ_some unQ_some un_not un_neg fldQ_ptr fldQ_ref extQ_tup evs_nil evs_cons consO_some lenQ_slv lenQ_ro lenQ_own lenQ_nils lenQ_str stQ_ptr stR_one avCells_agg avCells_int avCells_bool avCells_str avCells_slv avCells_own avCells_nils get_set List.length_cons List.length_nil Res_some Res_thn Res_blk seqP_norm seqP_exit seqP_ret blkP_norm blkP_exit blkP_ret rndP_norm rndP_exit rndP_ret Fin_norm Fin_ret Fin_exit rvV_ptr rvC_one evRV_t evRV_c evRVs_nil evRVs_cons ofL_nil ofL_cons tupOf_one tupOf_two exP if_true if_false not_false_eq_true not_true_eq_false decide_true decide_false Option.isSome_some eq_self and_self and_true true_and and_false false_and Nat.zero_add Nat.add_zero decide_eq_true_eq decide_eq_false_iff_not ne_eq Bool.false_eq_true Bool.true_eq_false reduceCtorEq Nat.reduceLT Nat.reduceEqDiff Nat.reduceAdd Nat.reduceSub Nat.reduceMul Nat.reduceLeDiff get_lf List.length_map mapF_nil mapF_cons mapC_some callQ_fn callR_some callS_cint callS_cbool callS_cstr frz_own frzR_row frzE_some frz_aggC frzA_some frz_int frz_bool frz_str frz_ro frz_nils frz_ref frz_slv view_get view_next viewOld_next eqsQ_agg eqC_some eqK_nil eqK_cons andO_some eq1_int eq1_bool eq1_str bbQ_some mmQ_some mm_nil mm_max mm_min convQ_some mkfQ_some convsQ_some nilcQ_ptr nilcQ_ref bin_quo bin_rem Int.reduceEq Int.reduceNe Int.reduceNeg flatA_agg flatA_int flatA_bool flatA_str flatA_nils flatA_ro flatA_slv flat_int flat_bool flat_str flat_nils flat_ro flat_slv num_int num_bool num_str all_mem_cons all_mem_nil export_flat export_tup callS_nums callS_flat callS_tup Bool.not_true Bool.not_false Bool.and_false Bool.false_and Bool.or_true Bool.true_or Bool.or_false Bool.false_or Bool.not_eq_true Bool.not_eq_false Bool.not_not Bool.not_eq_eq_eq_not Bool.not_eq_true' E0_next E0_get eq_add_one add_one_eq add_eq_add lt_add_self add_lt_add Nat.add_assoc ops_mkv mkvQ_some mkvC_some stv_int stv_bool stv_str stv_nils stv_ro stv_slv isOne_ro ops_slr0 ops_slr1 slrA_ptr slrA_ref frz_ptrC frzPt_one frzPc_some slrQ_some slrP_all stepQ_seal sealC_get slO_row slO_none slO_map seal_next callS_tupC callS_aggC callS_exC callT_nil callT_no callT_yes adp_ex adp_agg adp_tup adpL_nil adpL_cons adK_some adJ_some adA_some adT_some adp_int adp_bool adp_str adp_nils adp_ro adp_slv hasRo_int hasRo_bool hasRo_str hasRo_nils hasRo_ro hasRo_agg hasRo_tup hasRo_ex List.any_nil List.any_cons bin_seq bin_sne appQ_some appR_e_nils appR_e_own appR_cons appN_nils appN_own appO_row elems_ro elems_nils elems_own elO_row view_topD add_top0D add_top1D seal_tops E0_tops put_tops nqQ_slv List.not_mem_nil or_false or_true true_or false_or List.mem_cons frz_fnC frzFn_some nqQ_ro nqQ_nils List.map_nil List.map_cons expF_some xpt_own xpO_row xpO2_some xpt_agg xpt_tup xpA_some xpT_some xptL_nil xptL_cons xpC_some xpt_int xpt_bool xpt_str xpt_nils xpt_ro xpt_slv mapF2_cells nodup_one nodup_nil take_all take_all_map List.contains_nil Nat.le_refl mapF2_pts anyRo_pts anyRo_cells ldRow_head callS_nilsC ops_ld3 ops_st1_0 ld3_ptr stepS_some spP_ptr spC_row spAll_nil spAll_cons
variable {prim : Nat → List AV → Option AV}
set_option maxRecDepth 10000
def L38 : C := match c38.body with | .seq _ (.seq _ (.seq _ (.seq _ (.seq _ (.seq _ (.seq a _)))))) => loopOf a | _ => .skip
def I38 (l : List Pt) (z : Bb) (i : Nat) (st : St) : Prop :=
  st.t.get 8 = some (.own 2 4 0 l.length) ∧ st.h.get 4 = some (.row 2 (l.map Pt.av) 4 false) ∧ st.t.get 10 = some (.int .i64 i) ∧ st.t.get 4 = some (.ptr 1 0 0) ∧ st.h.get 1 = some (.row 4 [[.int .i64 0, .int .i64 0, .int .i64 0, .int .i64 0]] 1 false) ∧ st.t.get 9 = some (.ptr 5 0 0) ∧ st.h.get 5 = some (.row 4 [((l.take i).foldl Bb.step z).av] 5 false)
def Q38 (l : List Pt) (z : Bb) : Ex → St → Prop
  | .exit i, st => i = 0 ∧ st.t.get 4 = some (.ptr 1 0 0) ∧ st.h.get 1 = some (.row 4 [[.int .i64 0, .int .i64 0, .int .i64 0, .int .i64 0]] 1 false) ∧ st.t.get 9 = some (.ptr 5 0 0) ∧ st.h.get 5 = some (.row 4 [(l.foldl Bb.step z).av] 5 false)
  | _, _ => False
theorem round38 (l : List Pt) (z : Bb) (hl : l.length ≤ maxLen) (i : Nat) (st : St) (hi : i ≤ l.length) (hI : I38 l z i st) :
    Res ((om prim F).a L38 st) (rndP (fun s' => i < l.length ∧ I38 l z (i + 1) s') (Q38 l z)) := by
  obtain ⟨t, h⟩ := st
  obtain ⟨g8, r8, g10, g4, r4, g9, r9⟩ := hI
  simp only at g8 r8 g10 g4 r4 g9 r9
  by_cases hlt : i < l.length
  · have hx : l[i]? = some l[i] := List.getElem?_eq_getElem hlt
    generalize l[i] = x at hx
    have hxm : (l.map Pt.av)[i]? = some x.av := by simp [hx]
    have hil : (i : Int) < l.length := by omega
    have hw := wrap_succ hlt hl
    have hfs := fold_succ (g := Bb.step) (z := z) hx
    generalize (l.take i).foldl Bb.step z = b at r9 hfs
    simp only [Bb.av] at r9
    unfold L38 loopOf c38
    repeat' (first | done | (simp -implicitDefEqProofs only [↓reduceIte, go_sem, *, ixaQ_own hlt, ldRow_at hxm, Pt.av, I38, Bb.av, Bb.step]) | ((first | rw [stepG_split] | rw [cnd_split] | rw [pickQ_split]); split))
  · have : i = l.length := by omega
    subst this
    rw [List.take_length] at r9
    unfold L38 loopOf c38
    repeat' (first | done | (simp -implicitDefEqProofs only [↓reduceIte, go_sem, *, Q38, Int.lt_irrefl]) | ((first | rw [stepG_split] | rw [cnd_split] | rw [pickQ_split]); split))
theorem bounds38 (s : Sv) (id : Int) (ok : OkB s) (hp : ∀ f ∈ s.feats, f.parts.length ≤ 1073741824) (hn : ∀ f ∈ s.feats, (refPts s f).length ≤ maxLen) : (om prim F).p 38 [.agg s.av, .int .i64 id] = some (bndV s id) := by
  refine call_of F38 rfl ?_
  have h := find36 (prim := prim) s id ok.ok.tl hp
  unfold bndV
  cases hf : findF s id with
  | none =>
    rw [hf] at h
    simp only [refFV, noFeat, Sv.av] at h
    simp only [bboxV]
    clear hp hn ok
    unfold c38
    repeat' (first | done | (simp -implicitDefEqProofs only [↓reduceIte, go_sem, *, Sv.av, export_eq]) | ((first | rw [stepG_split] | rw [cnd_split] | rw [pickQ_split]); split))
  | some f =>
    rw [hf] at h
    simp only [refFV, featV, Sv.av] at h
    simp only
    have hpl := hp f (List.mem_of_find?_eq_some hf)
    have hnf := hn f (List.mem_of_find?_eq_some hf)
    have hrl : (f.parts.map cell).length = f.parts.length := List.length_map _
    have hs : ∀ l, slv false 1 l = .ro 1 l := fun l => by simp [slv]
    have k3 := points53 (prim := prim) s { f with pn := false } ok hpl
    have hpt : refPts s { f with pn := false } = refPts s f := rfl
    rw [hpt] at k3
    simp only [Ft.av, Sv.av, hs] at k3
    clear hp hn ok hf hs hpt
    generalize refPts s f = l at k3 hnf ⊢
    cases l with
    | nil =>
      rw [List.map_nil, exs_nil] at k3
      simp only [bboxV]
      unfold c38
      repeat' (first | done | (simp -implicitDefEqProofs only [↓reduceIte, go_sem, *, Sv.av, export_eq]) | ((first | rw [stepG_split] | rw [cnd_split] | rw [pickQ_split]); split))
    | cons p r =>
      rw [List.map_cons, exs_cons] at k3
      simp only [bboxV]
      have hz : 0 < r.length + 1 := Nat.succ_pos _
      have hrp : (r.map Pt.av).length = r.length := List.length_map _
      have hd : decide (((r.length + 1 : Nat) : Int) = 0) = false := decide_eq_false (by omega)
      unfold c38
      repeat' (first | done | (simp -implicitDefEqProofs only [↓reduceIte, go_sem, *, Sv.av, ixaQ_own0 hz, Pt.av]) | ((first | rw [stepG_split] | rw [cnd_split] | rw [pickQ_split]); split))
      refine (loop_up (p :: r).length (I38 (p :: r) (Bb.of p)) (round38 (p :: r) (Bb.of p) hnf) 0 _ (Nat.zero_le _) ?_).mono ?_
      · simp only [↓reduceIte, go_sem, I38]
        exact ⟨rfl, rfl, rfl⟩
      · rintro e ⟨t, h'⟩ hq
        clear h k3
        cases e with
        | norm => exact hq.elim
        | ret => exact hq.elim
        | exit i =>
          obtain ⟨rfl, h1, h2, h3, h4⟩ := hq
          simp only [Bb.av] at h1 h2 h3 h4
          repeat' (first | done | (simp -implicitDefEqProofs only [↓reduceIte, go_sem, *, Bb.av, export_eq]) | ((first | rw [stepG_split] | rw [cnd_split] | rw [pickQ_split]); split))
end Go.Ab
namespace Go.Ab
attribute [local go_sem] evParts_nil evParts_cons consP_some buildQ_some bldC_some mksQ_some mksC_some fillAll_nil fillAll_cons chop_zero chop_succ rep_zero rep_succ List.flatten_cons List.flatten_nil boxQ_c boxC_eq avCells_ptr List.append_nil List.all_nil List.all_cons Bool.true_and Bool.and_true isOne_int isOne_bool isOne_str isOne_nils isOne_own isOne_ptr isOne_slv lay_nil0 lay_cons0 lay_nil lay_succ List.drop_zero List.take_succ_cons List.take_zero List.drop_succ_cons List.getElem?_cons_zero List.getElem?_cons_succ List.take_nil List.drop_nil List.nil_append List.cons_append a_skip a_exit a_ret a_seq a_block a_cond a_reg thn_norm thn_exit thn_ret blk_norm blk_ret blk_exit rg_some cnd_true cnd_false ops_nil ops_g stepQ_quiet stepQ_makes stepW_some stepW_none stepG_tt stepG_tf stepG_ft stepG_ff stepG_ttN stepG_tfN stepG_ftN stepG_ffN stepG_skip stepG_skipN qv_s ev_t ev_c bin_add bin_sub bin_mul bin_lss bin_leq bin_gtr bin_geq bin_eql bin_neq viewOld_get add_next put_next add_row add_map put_get kl_row kl_none kl_map ops_mv ops_pick ops_new0 ops_new1 ops_new2 ops_box0 ops_box1 ops_box2 ops_build ops_mks0 ops_mks1 ops_mks2 ops_bin ops_un ops_len0 ops_len1 ops_len2 ops_call0 ops_call1 ops_call2 ops_fld ops_ixa ops_ext ops_app0 ops_app1 ops_app2 ops_mm ops_ixr ops_conv ops_convs ops_nilc ops_ixs ops_ixg ops_mkf ops_bb ops_nq ops_eqs ops_ld0 ops_ld1 ops_ld2 ops_st ops_calli pickQ_true pickQ_false ldRow_one ldQ_ref ldQ_ptr cut_false cut_true binQ_some unQ_some un_not un_neg fldQ_ptr fldQ_ref extQ_tup evs_nil evs_cons consO_some lenQ_slv lenQ_ro lenQ_own lenQ_nils lenQ_str stQ_ptr stR_one avCells_agg avCells_int avCells_bool avCells_str avCells_slv avCells_own avCells_nils get_set List.length_cons List.length_nil Res_some Res_thn Res_blk seqP_norm seqP_exit seqP_ret blkP_norm blkP_exit blkP_ret rndP_norm rndP_exit rndP_ret Fin_norm Fin_ret Fin_exit rvV_ptr rvC_one evRV_t evRV_c evRVs_nil evRVs_cons ofL_nil ofL_cons tupOf_one tupOf_two exP if_true if_false not_false_eq_true not_true_eq_false decide_true decide_false Option.isSome_some eq_self and_self and_true true_and and_false false_and Nat.zero_add Nat.add_zero decide_eq_true_eq decide_eq_false_iff_not ne_eq Bool.false_eq_true Bool.true_eq_false reduceCtorEq Nat.reduceLT Nat.reduceEqDiff Nat.reduceAdd Nat.reduceSub Nat.reduceMul Nat.reduceLeDiff get_lf List.length_map mapF_nil mapF_cons mapC_some callQ_fn callR_some callS_cint callS_cbool callS_cstr frz_own frzR_row frzE_some frz_aggC frzA_some frz_int frz_bool frz_str frz_ro frz_nils frz_ref frz_slv view_get view_next viewOld_next eqsQ_agg eqC_some eqK_nil eqK_cons andO_some eq1_int eq1_bool eq1_str bbQ_some mmQ_some mm_nil mm_max mm_min convQ_some mkfQ_some convsQ_some nilcQ_ptr nilcQ_ref bin_quo bin_rem Int.reduceEq Int.reduceNe Int.reduceNeg flatA_agg flatA_int flatA_bool flatA_str flatA_nils flatA_ro flatA_slv flat_int flat_bool flat_str flat_nils flat_ro flat_slv num_int num_bool num_str all_mem_cons all_mem_nil export_flat export_tup callS_nums callS_flat callS_tup Bool.not_true Bool.not_false Bool.and_false Bool.false_and Bool.or_true Bool.true_or Bool.or_false Bool.false_or Bool.not_eq_true Bool.not_eq_false Bool.not_not Bool.not_eq_eq_eq_not Bool.not_eq_true' E0_next E0_get eq_add_one add_one_eq add_eq_add lt_add_self add_lt_add Nat.add_assoc ops_mkv mkvQ_some mkvC_some stv_int stv_bool stv_str stv_nils stv_ro stv_slv isOne_ro ops_slr0 ops_slr1 slrA_ptr slrA_ref frz_ptrC frzPt_one frzPc_some slrQ_some slrP_all stepQ_seal sealC_get slO_row slO_none slO_map seal_next callS_tupC callS_aggC callS_exC callT_nil callT_no callT_yes adp_ex adp_agg adp_tup adpL_nil adpL_cons adK_some adJ_some adA_some adT_some adp_int adp_bool adp_str adp_nils adp_ro adp_slv hasRo_int hasRo_bool hasRo_str hasRo_nils hasRo_ro hasRo_agg hasRo_tup hasRo_ex List.any_nil List.any_cons bin_seq bin_sne appQ_some appR_e_nils appR_e_own appR_cons appN_nils appN_own appO_row elems_ro elems_nils elems_own elO_row view_topD add_top0D add_top1D seal_tops E0_tops put_tops nqQ_slv List.not_mem_nil or_false or_true true_or false_or List.mem_cons frz_fnC frzFn_some nqQ_ro nqQ_nils List.map_nil List.map_cons expF_some xpt_own xpO_row xpO2_some xpt_agg xpt_tup xpA_some xpT_some xptL_nil xptL_cons xpC_some xpt_int xpt_bool xpt_str xpt_nils xpt_ro xpt_slv mapF2_cells nodup_one nodup_nil take_all take_all_map List.contains_nil Nat.le_refl mapF2_pts anyRo_pts anyRo_cells ldRow_head callS_nilsC ops_ld3 ops_st1_0 ld3_ptr stepS_some spP_ptr spC_row spAll_nil spAll_cons
variable {prim : Nat → List AV → Option AV}
set_option maxRecDepth 10000
theorem F81 : F.get 81 = some c81 := by rfl
theorem F34 : F.get 34 = some c34 := by rfl
theorem w501 : IntKind.i64.wrap 501 = 501 := by rfl
theorem w501' : IntKind.i64.wrap (500 + 1) = 501 := by rfl
def smallA (l : List Ar) (n : Int) : Prop := (0 ≤ n ∧ n ≤ 1001) ∧ ∀ a ∈ l, (a.via.length : Int) ≤ n ∨ 500 < n
def L81 : C := match c81.body with | .seq _ (.seq _ (.seq _ (.seq a _))) => loopOf a | _ => .skip
def I81 (s : Sv) (i : Nat) (st : St) : Prop :=
  st.t.get 2 = some (.ptr 0 0 0) ∧ st.h.get 0 = some (.row 3 [s.plan] 0 false) ∧ st.t.get 1 = some (.int .i64 500) ∧ st.t.get 6 = some (.int .i64 i) ∧ ∃ n, st.t.get 5 = some (.int .i64 n) ∧ smallA (s.arcs.take i) n
def Q81 (s : Sv) : Ex → St → Prop
  | .exit i, st => i = 0 ∧ st.t.get 1 = some (.int .i64 500) ∧ ∃ n, st.t.get 5 = some (.int .i64 n) ∧ (n ≤ 500 → ∀ a ∈ s.arcs, a.via.length ≤ 500)
  | _, _ => False
theorem round81 (s : Sv) (hl : s.arcs.length ≤ maxLen) (i : Nat) (st : St) (hi : i ≤ s.arcs.length) (hI : I81 s i st) :
    Res ((om prim F).a L81 st) (rndP (fun s' => i < s.arcs.length ∧ I81 s (i + 1) s') (Q81 s)) := by
  obtain ⟨t, h⟩ := st
  obtain ⟨g2, r2, g1, g6, n, g5, sm⟩ := hI
  simp only at g2 r2 g1 g6 g5
  simp only [Sv.plan] at r2
  by_cases hlt : i < s.arcs.length
  · have hx : s.arcs[i]? = some s.arcs[i] := List.getElem?_eq_getElem hlt
    generalize s.arcs[i] = x at hx
    have hxm : (s.arcs.map Ar.av)[i]? = some x.av := by simp [hx]
    have hil : (i : Int) < s.arcs.length := by omega
    have hw := wrap_succ hlt hl
    by_cases hn : n ≤ 500
    · have hsm : smallA (s.arcs.take (i + 1)) (n + min (x.via.length : Int) 501) := by
        obtain ⟨⟨n0, n1⟩, ha⟩ := sm
        refine ⟨by omega, ?_⟩
        rw [List.take_add_one, hx]
        intro a hm
        rcases List.mem_append.1 hm with hm | hm
        · have := ha a hm; omega
        · simp at hm; subst hm; omega
      have hwn : IntKind.i64.wrap (n + min (x.via.length : Int) 501) = n + min (x.via.length : Int) 501 := wrap64_of (by obtain ⟨⟨n0, n1⟩, _⟩ := sm; omega)
      clear sm
      unfold L81 loopOf c81
      repeat' (first | done | (simp -implicitDefEqProofs only [↓reduceIte, go_sem, *, ixaQ_slv hxm, Ar.av, Sv.plan, I81, w501, w501']) | ((first | rw [stepG_split] | rw [cnd_split] | rw [pickQ_split]); split))
      exact ⟨_, rfl, hsm⟩
    · clear hl
      unfold L81 loopOf c81
      repeat' (first | done | (simp -implicitDefEqProofs only [↓reduceIte, go_sem, *, ixaQ_slv hxm, Ar.av, Sv.plan, I81, Q81]) | ((first | rw [stepG_split] | rw [cnd_split] | rw [pickQ_split]); split))
      exact ⟨_, rfl, fun h => absurd h hn⟩
  · have : i = s.arcs.length := by omega
    subst this
    rw [List.take_length] at sm
    unfold L81 loopOf c81
    repeat' (first | done | (simp -implicitDefEqProofs only [↓reduceIte, go_sem, *, Q81, Int.lt_irrefl]) | ((first | rw [stepG_split] | rw [cnd_split] | rw [pickQ_split]); split))
    all_goals exact ⟨_, rfl, fun h a hm => by have := sm.2 a hm; omega⟩
theorem few81 (s : Sv) : ∃ b, (om prim F).p 81 [.agg s.plan, .int .i64 500] = some (.bool b) ∧ (b = true → s.nodes.length ≤ 500 ∧ s.arcs.length ≤ 500 ∧ ∀ a ∈ s.arcs, a.via.length ≤ 500) := by
  by_cases hc : 500 < s.nodes.length ∨ 500 < s.arcs.length ∨ 500 < s.faces.length
  · refine ⟨false, call_of F81 rfl ?_, by simp⟩
    have hcc : decide ((500 : Int) < s.nodes.length) = true ∨ decide ((500 : Int) < s.nodes.length) = false ∧ decide ((500 : Int) < s.arcs.length) = true ∨ decide ((500 : Int) < s.nodes.length) = false ∧ decide ((500 : Int) < s.arcs.length) = false ∧ decide ((500 : Int) < s.faces.length) = true := by
      simp only [decide_eq_true_eq, decide_eq_false_iff_not]; omega
    clear hc
    rcases hcc with h1 | ⟨h1, h2⟩ | ⟨h1, h2, h3⟩
    all_goals unfold c81
    all_goals repeat' (first | done | (simp -implicitDefEqProofs only [↓reduceIte, go_sem, *, Sv.plan]) | ((first | rw [stepG_split] | rw [cnd_split] | rw [pickQ_split]); split))
  · have h1 : decide ((500 : Int) < s.nodes.length) = false := decide_eq_false (by omega)
    have h2 : decide ((500 : Int) < s.arcs.length) = false := decide_eq_false (by omega)
    have h3 : decide ((500 : Int) < s.faces.length) = false := decide_eq_false (by omega)
    have hal : s.arcs.length ≤ maxLen := by simp only [maxLen]; omega
    have hb : ∃ b, Res ((om prim F).a c81.body ⟨Tr.ofL [.agg s.plan, .int .i64 500] 0 .lf, E0⟩) (fun e st => Fin c81.rs (.bool b) e st ∧ (b = true → ∀ a ∈ s.arcs, a.via.length ≤ 500)) := by
      have hr : Res ((om prim F).a c81.body ⟨Tr.ofL [.agg s.plan, .int .i64 500] 0 .lf, E0⟩) (fun e st => ∃ b, Fin c81.rs (.bool b) e st ∧ (b = true → ∀ a ∈ s.arcs, a.via.length ≤ 500)) := by
        unfold c81
        simp only [↓reduceIte, go_sem, *, Sv.plan]
        refine (loop_up s.arcs.length (I81 s) (round81 s hal) 0 _ (Nat.zero_le _) (by simp only [↓reduceIte, go_sem, I81, Sv.plan]; exact ⟨rfl, 0, rfl, ⟨by decide, by decide⟩, by simp⟩)).mono ?_
        rintro e ⟨t, h⟩ hq
        cases e with
        | norm => exact hq.elim
        | ret => exact hq.elim
        | exit i =>
          obtain ⟨rfl, g1, n, g5, hn⟩ := hq
          simp only at g1 g5
          clear h1 h2 h3 hal hc
          simp only [↓reduceIte, go_sem, g1, g5]
          exact ⟨decide (n ≤ 500), rfl, fun h => hn (of_decide_eq_true h)⟩
      obtain ⟨e, st, h1, b, h2, h3⟩ := hr
      exact ⟨b, e, st, h1, h2, h3⟩
    obtain ⟨b, hb⟩ := hb
    refine ⟨b, call_of F81 rfl (hb.mono fun e st h => h.1), fun h => ⟨by omega, by omega, ?_⟩⟩
    obtain ⟨e, st, _, _, h2⟩ := hb
    exact h2 h
def smallF (l : List Ft) (n : Int) : Prop := (0 ≤ n ∧ n ≤ 1001) ∧ ∀ a ∈ l, (a.parts.length : Int) ≤ n ∨ 500 < n
def L34 : C := match c34.body with | .seq _ (.seq _ (.seq _ (.seq a _))) => loopOf a | _ => .skip
def I34 (s : Sv) (i : Nat) (st : St) : Prop :=
  st.t.get 2 = some (.ptr 0 0 0) ∧ st.h.get 0 = some (.row 4 [s.av] 0 false) ∧ st.t.get 1 = some (.int .i64 500) ∧ st.t.get 6 = some (.int .i64 i) ∧ ∃ n, st.t.get 5 = some (.int .i64 n) ∧ smallF (s.feats.take i) n
def Q34 (s : Sv) : Ex → St → Prop
  | .exit i, st => i = 0 ∧ st.t.get 1 = some (.int .i64 500) ∧ ∃ n, st.t.get 5 = some (.int .i64 n) ∧ (n ≤ 500 → ∀ a ∈ s.feats, a.parts.length ≤ 500)
  | _, _ => False
theorem round34 (s : Sv) (hl : s.feats.length ≤ maxLen) (i : Nat) (st : St) (hi : i ≤ s.feats.length) (hI : I34 s i st) :
    Res ((om prim F).a L34 st) (rndP (fun s' => i < s.feats.length ∧ I34 s (i + 1) s') (Q34 s)) := by
  obtain ⟨t, h⟩ := st
  obtain ⟨g2, r2, g1, g6, n, g5, sm⟩ := hI
  simp only at g2 r2 g1 g6 g5
  simp only [Sv.av] at r2
  by_cases hlt : i < s.feats.length
  · have hx : s.feats[i]? = some s.feats[i] := List.getElem?_eq_getElem hlt
    generalize s.feats[i] = x at hx
    have hxm : (s.feats.map Ft.av)[i]? = some x.av := by simp [hx]
    have hil : (i : Int) < s.feats.length := by omega
    have hw := wrap_succ hlt hl
    by_cases hn : n ≤ 500
    · have hsm : smallF (s.feats.take (i + 1)) (n + min (x.parts.length : Int) 501) := by
        obtain ⟨⟨n0, n1⟩, ha⟩ := sm
        refine ⟨by omega, ?_⟩
        rw [List.take_add_one, hx]
        intro a hm
        rcases List.mem_append.1 hm with hm | hm
        · have := ha a hm; omega
        · simp at hm; subst hm; omega
      have hwn : IntKind.i64.wrap (n + min (x.parts.length : Int) 501) = n + min (x.parts.length : Int) 501 := wrap64_of (by obtain ⟨⟨n0, n1⟩, _⟩ := sm; omega)
      clear sm
      unfold L34 loopOf c34
      repeat' (first | done | (simp -implicitDefEqProofs only [↓reduceIte, go_sem, *, ixaQ_slv hxm, Ft.av, Sv.av, I34, w501, w501']) | ((first | rw [stepG_split] | rw [cnd_split] | rw [pickQ_split]); split))
      exact ⟨_, rfl, hsm⟩
    · clear hl
      unfold L34 loopOf c34
      repeat' (first | done | (simp -implicitDefEqProofs only [↓reduceIte, go_sem, *, ixaQ_slv hxm, Ft.av, Sv.av, I34, Q34]) | ((first | rw [stepG_split] | rw [cnd_split] | rw [pickQ_split]); split))
      exact ⟨_, rfl, fun h => absurd h hn⟩
  · have : i = s.feats.length := by omega
    subst this
    rw [List.take_length] at sm
    unfold L34 loopOf c34
    repeat' (first | done | (simp -implicitDefEqProofs only [↓reduceIte, go_sem, *, Q34, Int.lt_irrefl]) | ((first | rw [stepG_split] | rw [cnd_split] | rw [pickQ_split]); split))
    all_goals exact ⟨_, rfl, fun h a hm => by have := sm.2 a hm; omega⟩
theorem few34 (s : Sv) : ∃ b, (om prim F).p 34 [.agg s.av, .int .i64 500] = some (.bool b) ∧ (b = true → (s.nodes.length ≤ 500 ∧ s.arcs.length ≤ 500 ∧ ∀ a ∈ s.arcs, a.via.length ≤ 500) ∧ s.feats.length ≤ 500 ∧ ∀ f ∈ s.feats, f.parts.length ≤ 500) := by
  obtain ⟨b0, h0, hb0⟩ := few81 (prim := prim) s
  simp only [Sv.plan] at h0
  by_cases hc : b0 = false ∨ b0 = true ∧ 500 < s.feats.length
  · refine ⟨false, call_of F34 rfl ?_, by simp⟩
    have hcc : b0 = false ∨ b0 = true ∧ decide ((500 : Int) < s.feats.length) = true := by
      simp only [decide_eq_true_eq]; rcases hc with h | ⟨h, h2⟩
      · exact .inl h
      · exact .inr ⟨h, by omega⟩
    clear hc hb0
    rcases hcc with rfl | ⟨rfl, h1⟩
    all_goals unfold c34
    all_goals repeat' (first | done | (simp -implicitDefEqProofs only [↓reduceIte, go_sem, *, Sv.av]) | ((first | rw [stepG_split] | rw [cnd_split] | rw [pickQ_split]); split))
  · have hb : b0 = true := by cases b0 <;> simp_all
    subst hb
    have hl5 : s.feats.length ≤ 500 := by simp at hc; omega
    have hb0' := hb0 rfl
    clear hb0 hc
    have h1 : decide ((500 : Int) < s.feats.length) = false := decide_eq_false (by omega)
    have hal : s.feats.length ≤ maxLen := by simp only [maxLen]; omega
    have hb : ∃ b, Res ((om prim F).a c34.body ⟨Tr.ofL [.agg s.av, .int .i64 500] 0 .lf, E0⟩) (fun e st => Fin c34.rs (.bool b) e st ∧ (b = true → ∀ a ∈ s.feats, a.parts.length ≤ 500)) := by
      have hr : Res ((om prim F).a c34.body ⟨Tr.ofL [.agg s.av, .int .i64 500] 0 .lf, E0⟩) (fun e st => ∃ b, Fin c34.rs (.bool b) e st ∧ (b = true → ∀ a ∈ s.feats, a.parts.length ≤ 500)) := by
        unfold c34
        simp only [↓reduceIte, go_sem, Sv.av, h0, h1]
        refine (loop_up s.feats.length (I34 s) (round34 s hal) 0 _ (Nat.zero_le _) (by simp only [↓reduceIte, go_sem, I34, Sv.av]; exact ⟨rfl, 0, rfl, ⟨by decide, by decide⟩, by simp⟩)).mono ?_
        rintro e ⟨t, h⟩ hq
        cases e with
        | norm => exact hq.elim
        | ret => exact hq.elim
        | exit i =>
          obtain ⟨rfl, g1, n, g5, hn⟩ := hq
          simp only at g1 g5
          simp only [↓reduceIte, go_sem, g1, g5]
          exact ⟨decide (n ≤ 500), rfl, fun h => hn (of_decide_eq_true h)⟩
      obtain ⟨e, st, h1, b, h2, h3⟩ := hr
      exact ⟨b, e, st, h1, h2, h3⟩
    obtain ⟨b, hb⟩ := hb
    refine ⟨b, call_of F34 rfl (hb.mono fun e st h => h.1), fun h => ⟨hb0', hl5, ?_⟩⟩
    obtain ⟨e, st, _, _, h2⟩ := hb
    exact h2 h
end Go.Ab
namespace Go.Ab
attribute [local go_sem] evParts_nil evParts_cons consP_some buildQ_some bldC_some mksQ_some mksC_some fillAll_nil fillAll_cons chop_zero chop_succ rep_zero rep_succ List.flatten_cons List.flatten_nil boxQ_c boxC_eq avCells_ptr List.append_nil List.all_nil List.all_cons Bool.true_and Bool.and_true isOne_int isOne_bool isOne_str isOne_nils isOne_own isOne_ptr isOne_slv lay_nil0 lay_cons0 lay_nil lay_succ List.drop_zero List.take_succ_cons List.take_zero List.drop_succ_cons List.getElem?_cons_zero List.getElem?_cons_succ List.take_nil List.drop_nil List.nil_append List.cons_append a_skip a_exit a_ret a_seq a_block a_cond a_reg thn_norm thn_exit thn_ret blk_norm blk_ret blk_exit rg_some cnd_true cnd_false ops_nil ops_g stepQ_quiet stepQ_makes stepW_some stepW_none stepG_tt stepG_tf stepG_ft stepG_ff stepG_ttN stepG_tfN stepG_ftN stepG_ffN stepG_skip stepG_skipN qv_s ev_t ev_c bin_add bin_sub bin_mul bin_lss bin_leq bin_gtr bin_geq bin_eql bin_neq viewOld_get add_next put_next add_row add_map put_get kl_row kl_none kl_map ops_mv ops_pick ops_new0 ops_new1 ops_new2 ops_box0 ops_box1 ops_box2 ops_build ops_mks0 ops_mks1 ops_mks2 ops_bin ops_un ops_len0 ops_len1 ops_len2 ops_call0 ops_call1 ops_call2 ops_fld ops_ixa ops_ext ops_app0 ops_app1 ops_app2 ops_mm ops_ixr ops_conv ops_convs ops_nilc ops_ixs ops_ixg ops_mkf ops_bb ops_nq ops_eqs ops_ld0 ops_ld1 ops_ld2 ops_st ops_calli pickQ_true pickQ_false ldRow_one ldQ_ref ldQ_ptr cut_false cut_true binQ_some unQ_some un_not un_neg fldQ_ptr fldQ_ref extQ_tup evs_nil evs_cons consO_some lenQ_slv lenQ_ro lenQ_own lenQ_nils lenQ_str stQ_ptr stR_one avCells_agg avCells_int avCells_bool avCells_str avCells_slv avCells_own avCells_nils get_set List.length_cons List.length_nil Res_some Res_thn Res_blk seqP_norm seqP_exit seqP_ret blkP_norm blkP_exit blkP_ret rndP_norm rndP_exit rndP_ret Fin_norm Fin_ret Fin_exit rvV_ptr rvC_one evRV_t evRV_c evRVs_nil evRVs_cons ofL_nil ofL_cons tupOf_one tupOf_two exP if_true if_false not_false_eq_true not_true_eq_false decide_true decide_false Option.isSome_some eq_self and_self and_true true_and and_false false_and Nat.zero_add Nat.add_zero decide_eq_true_eq decide_eq_false_iff_not ne_eq Bool.false_eq_true Bool.true_eq_false reduceCtorEq Nat.reduceLT Nat.reduceEqDiff Nat.reduceAdd Nat.reduceSub Nat.reduceMul Nat.reduceLeDiff get_lf List.length_map mapF_nil mapF_cons mapC_some callQ_fn callR_some callS_cint callS_cbool callS_cstr frz_own frzR_row frzE_some frz_aggC frzA_some frz_int frz_bool frz_str frz_ro frz_nils frz_ref frz_slv view_get view_next viewOld_next eqsQ_agg eqC_some eqK_nil eqK_cons andO_some eq1_int eq1_bool eq1_str bbQ_some mmQ_some mm_nil mm_max mm_min convQ_some mkfQ_some convsQ_some nilcQ_ptr nilcQ_ref bin_quo bin_rem Int.reduceEq Int.reduceNe Int.reduceNeg flatA_agg flatA_int flatA_bool flatA_str flatA_nils flatA_ro flatA_slv flat_int flat_bool flat_str flat_nils flat_ro flat_slv num_int num_bool num_str all_mem_cons all_mem_nil export_flat export_tup callS_nums callS_flat callS_tup Bool.not_true Bool.not_false Bool.and_false Bool.false_and Bool.or_true Bool.true_or Bool.or_false Bool.false_or Bool.not_eq_true Bool.not_eq_false Bool.not_not Bool.not_eq_eq_eq_not Bool.not_eq_true' E0_next E0_get eq_add_one add_one_eq add_eq_add lt_add_self add_lt_add Nat.add_assoc ops_mkv mkvQ_some mkvC_some stv_int stv_bool stv_str stv_nils stv_ro stv_slv isOne_ro ops_slr0 ops_slr1 slrA_ptr slrA_ref frz_ptrC frzPt_one frzPc_some slrQ_some slrP_all stepQ_seal sealC_get slO_row slO_none slO_map seal_next callS_tupC callS_aggC callS_exC callT_nil callT_no callT_yes adp_ex adp_agg adp_tup adpL_nil adpL_cons adK_some adJ_some adA_some adT_some adp_int adp_bool adp_str adp_nils adp_ro adp_slv hasRo_int hasRo_bool hasRo_str hasRo_nils hasRo_ro hasRo_agg hasRo_tup hasRo_ex List.any_nil List.any_cons bin_seq bin_sne appQ_some appR_e_nils appR_e_own appR_cons appN_nils appN_own appO_row elems_ro elems_nils elems_own elO_row view_topD add_top0D add_top1D seal_tops E0_tops put_tops nqQ_slv List.not_mem_nil or_false or_true true_or false_or List.mem_cons frz_fnC frzFn_some nqQ_ro nqQ_nils List.map_nil List.map_cons expF_some xpt_own xpO_row xpO2_some xpt_agg xpt_tup xpA_some xpT_some xptL_nil xptL_cons xpC_some xpt_int xpt_bool xpt_str xpt_nils xpt_ro xpt_slv mapF2_cells nodup_one nodup_nil take_all take_all_map List.contains_nil Nat.le_refl mapF2_pts anyRo_pts anyRo_cells ldRow_head callS_nilsC ops_ld3 ops_st1_0 ld3_ptr stepS_some spP_ptr spC_row spAll_nil spAll_cons
set_option maxRecDepth 10000
theorem F9 : F.get 9 = some c9 := by rfl
theorem bnd_form (s : Sv) (id : Int) : ∃ a b c d w, bndV s id = .tup [.agg [.int .i64 a, .int .i64 b, .int .i64 c, .int .i64 d], .bool w] := by
  unfold bndV
  split
  · exact ⟨_, _, _, _, _, rfl⟩
  · rename_i f _
    cases refPts s f with
    | nil => exact ⟨_, _, _, _, _, rfl⟩
    | cons p r => exact ⟨_, _, _, _, _, rfl⟩
def L9 : C := match c9.body with | .seq _ (.seq _ (.seq _ (.seq _ (.seq _ (.seq _ (.seq _ (.seq a _))))))) => loopOf a | _ => .skip
def I9 (s : Sv) (id : Int) (i : Nat) (st : St) : Prop :=
  (∃ m, st.h.next = m + 1) ∧ st.t.get 3 = some (.ptr 0 0 0) ∧ st.h.get 0 = some (.row 4 [s.av] 0 false) ∧ st.t.get 1 = some (.int .i64 id) ∧ st.t.get 15 = some (.int .i64 i)
def Q9 : Ex → St → Prop
  | .exit i, _ => i = 0
  | _, _ => False
theorem mapF_cell (g : Nat → Option AObj) (f : Nat) (z : Int) : mapF (frz g (f + 1)) (cell z) = some (cell z, []) := mapF_flat (f := f) (fun c hc => by simp only [cell, List.mem_cons, List.not_mem_nil, or_false] at hc; subst hc; trivial)
theorem round9 (s : Sv) (id : Int) (hfl : s.feats.length ≤ 500) (hp : ∀ f ∈ s.feats, f.parts.length ≤ 1073741824) (i : Nat) (st : St) (hi : i ≤ 5) (hI : I9 s id i st) :
    Res ((om prim1 F).a L9 st) (rndP (fun s' => i < 5 ∧ I9 s id (i + 1) s') Q9) := by
  obtain ⟨t, h⟩ := st
  obtain ⟨⟨m, nx⟩, g3, r3, g1, g15⟩ := hI
  simp only at nx g3 r3 g1 g15
  simp only [Sv.av] at r3
  by_cases hlt : i < 5
  · have hd : decide ((i : Int) ≤ 4) = true := decide_eq_true (by omega)
    have hw : IntKind.i64.wrap ((i : Int) + 1) = ((i + 1 : Nat) : Int) := wrap_succ hlt (by simp only [maxLen]; omega)
    have k1 := users42 (prim := prim1) s i id (by omega) hp
    have k2 := users43 (prim := prim1) s i id (by omega) hp
    have hle : (usersL s i id).length ≤ maxLen := Nat.le_trans (use_len i id s.feats) (by simp only [maxLen]; omega)
    clear hp hfl
    simp only [Sv.av] at k1 k2
    generalize usersL s i id = l at k1 k2 hle
    have k3 := same41 (prim := prim1) true true l l hle
    rw [decide_eq_true (rfl : l = l)] at k3
    have hm0 : 0 < m + 1 := Nat.succ_pos m
    cases l with
    | nil =>
      rw [List.map_nil, exs_nil] at k1 k2
      rw [List.map_nil, slv_nil] at k3
      unfold L9 loopOf c9
      repeat' (first | done | (simp -implicitDefEqProofs only [↓reduceIte, go_sem, *, Sv.av, I9]) | ((first | rw [stepG_split] | rw [cnd_split] | rw [pickQ_split]); split))
      all_goals exact ⟨_, rfl⟩
    | cons z r =>
      rw [List.map_cons, exs_cons] at k1 k2
      rw [List.map_cons, slv_cons] at k3
      have hrl : (r.map cell).length = r.length := List.length_map _
      unfold L9 loopOf c9
      repeat' (first | done | (simp -implicitDefEqProofs only [↓reduceIte, go_sem, *, Sv.av, I9, mapF_cell]) | ((first | rw [stepG_split] | rw [cnd_split] | rw [pickQ_split]); split))
      all_goals exact ⟨_, rfl⟩
  · have : i = 5 := by omega
    subst this
    have hd : decide (((5 : Nat) : Int) ≤ 4) = false := by decide
    clear hp hfl
    unfold L9 loopOf c9
    repeat' (first | done | (simp -implicitDefEqProofs only [↓reduceIte, go_sem, *, Q9]) | ((first | rw [stepG_split] | rw [cnd_split] | rw [pickQ_split]); split))
theorem findsMain (s : Sv) (id kind : Int) : (om prim1 F).p 9 [.agg s.av, .int .i64 id, .int .i64 kind] = some (.bool true) := by
  refine call_of F9 rfl ?_
  obtain ⟨b, h34, hb⟩ := few34 (prim := prim1) s
  have haw := awake17
  cases b with
  | false =>
    clear hb
    simp only [Sv.av] at h34
    unfold c9
    repeat' (first | done | (simp -implicitDefEqProofs only [↓reduceIte, go_sem, *, Sv.av, export_eq]) | ((first | rw [stepG_split] | rw [cnd_split] | rw [pickQ_split]); split))
  | true =>
    obtain ⟨⟨hn, ha, hv⟩, hf, hp⟩ := hb rfl
    have ok : OkB s := ⟨⟨by simp only [maxLen]; omega, by simp only [maxLen]; omega, by simp only [maxLen]; omega, fun a h => by have := hv a h; omega, fun f h => by have := hp f h; omega⟩, by omega, fun a h => by have := hv a h; omega⟩
    have hp2 : ∀ f ∈ s.feats, f.parts.length ≤ 1073741824 := ok.ok.pl
    have hpts : ∀ f ∈ s.feats, (ptsOf s f).length ≤ maxLen := by
      intro f h
      unfold ptsOf
      split
      · exact Nat.le_trans (flat_len1 s f.parts) (by have := hp f h; simp only [maxLen]; omega)
      · exact Nat.le_trans (flat_len2 f ok s.arcs) (by simp only [maxLen]; omega)
    have href : ∀ f ∈ s.feats, (refPts s f).length ≤ maxLen := by
      intro f h
      unfold refPts
      split
      · simp
      · exact hpts f h
    have h31 := find31 (prim := prim1) s id ok.ok.tl hp2
    have h36 := find36 (prim := prim1) s id ok.ok.tl hp2
    have h37 := bounds37 (prim := prim1) s id ok hp2 hpts
    have h38 := bounds38 (prim := prim1) s id ok hp2 href
    obtain ⟨x0, y0, x1, y1, w, hbf⟩ := bnd_form s id
    rw [hbf] at h37 h38
    have hww : (w != w) = false := by simp
    have h32 := shape32 (prim := prim1) kind
    have h40 := shape40 (prim := prim1) kind
    have hr9 := round9 s id hf hp2
    have h39 : ∀ f, findF s id = some f → f.parts.length ≤ maxLen := fun f h => by have := hp f (List.mem_of_find?_eq_some h); simp only [maxLen]; omega
    clear hb hbf ok hp2 hpts href hn ha hv hf hp
    simp only [Sv.av] at h34 h31 h36 h37 h38
    have hsk : decide (¬ shape kind = shape kind) = false := by simp
    cases hfi : findF s id with
    | none =>
      rw [hfi] at h31 h36
      clear h39 hfi
      have e39 := feat39 (prim := prim1) ⟨0, 0, 0, [], true, []⟩ true (by simp)
      simp only [findFV, refFV, noFeat] at h31 h36
      simp only [Ft.av, List.map_nil, slv_nil] at e39
      unfold c9
      repeat' (first | done | (simp -implicitDefEqProofs only [↓reduceIte, go_sem, *, Sv.av, eq_self, decide_true, not_true_eq_false, decide_false, beq_self_eq_true, Bool.not_true]) | ((first | rw [stepG_split] | rw [cnd_split] | rw [pickQ_split]); split))
      · refine (loop_up 5 (I9 s id) hr9 0 _ (by omega) (by simp only [↓reduceIte, go_sem, I9, Sv.av]; exact ⟨⟨_, rfl⟩, rfl⟩)).mono ?_
        clear hr9 h31 h34 h36 h37 h38 h32 h40 e39
        rintro e ⟨t, h⟩ hq
        cases e with
        | norm => exact hq.elim
        | ret => exact hq.elim
        | exit i =>
          have hq : i = 0 := hq
          subst hq
          repeat' (first | done | (simp -implicitDefEqProofs only [↓reduceIte, go_sem, *, export_eq]) | ((first | rw [stepG_split] | rw [cnd_split] | rw [pickQ_split]); split))
    | some f =>
      rw [hfi] at h31 h36
      have hl := h39 f hfi
      clear h39 hfi
      simp only [findFV, refFV, featV] at h31 h36
      have hrl : (f.parts.map cell).length = f.parts.length := List.length_map _
      have hs : ∀ l, slv false 1 l = .ro 1 l := fun l => by simp [slv]
      rcases exs_cases f.pn 1 (f.parts.map cell) with ⟨e1, -⟩ | ⟨e1, e2, -⟩
      · rw [e1] at h31
        have e39 := feat39 (prim := prim1) { f with pn := false } false hl
        simp only [Ft.av, hs] at e39
        clear hs
        unfold c9
        repeat' (first | done | (simp -implicitDefEqProofs only [↓reduceIte, go_sem, *, Sv.av, eq_self, decide_true, not_true_eq_false, decide_false, beq_self_eq_true, Bool.not_true]) | ((first | rw [stepG_split] | rw [cnd_split] | rw [pickQ_split]); split))
        · refine (loop_up 5 (I9 s id) hr9 0 _ (by omega) (by simp only [↓reduceIte, go_sem, I9, Sv.av]; exact ⟨⟨_, rfl⟩, rfl⟩)).mono ?_
          clear hr9 h31 h34 h36 h37 h38 h32 h40 e39
          rintro e ⟨t, h⟩ hq
          cases e with
          | norm => exact hq.elim
          | ret => exact hq.elim
          | exit i =>
            have hq : i = 0 := hq
            subst hq
            repeat' (first | done | (simp -implicitDefEqProofs only [↓reduceIte, go_sem, *, export_eq]) | ((first | rw [stepG_split] | rw [cnd_split] | rw [pickQ_split]); split))
      · rw [e1] at h31
        have e39 := feat39 (prim := prim1) f false hl
        simp only [Ft.av, hs, e2] at e39
        clear hs
        unfold c9
        repeat' (first | done | (simp -implicitDefEqProofs only [↓reduceIte, go_sem, *, Sv.av, eq_self, decide_true, not_true_eq_false, decide_false, beq_self_eq_true, Bool.not_true]) | ((first | rw [stepG_split] | rw [cnd_split] | rw [pickQ_split]); split))
        · refine (loop_up 5 (I9 s id) hr9 0 _ (by omega) (by simp only [↓reduceIte, go_sem, I9, Sv.av]; exact ⟨⟨_, rfl⟩, rfl⟩)).mono ?_
          clear hr9 h31 h34 h36 h37 h38 h32 h40 e39
          rintro e ⟨t, h⟩ hq
          cases e with
          | norm => exact hq.elim
          | ret => exact hq.elim
          | exit i =>
            have hq : i = 0 := hq
            subst hq
            repeat' (first | done | (simp -implicitDefEqProofs only [↓reduceIte, go_sem, *, export_eq]) | ((first | rw [stepG_split] | rw [cnd_split] | rw [pickQ_split]); split))
end Go.Ab
namespace Go.Ab
theorem ndOf' {e : List AV} (h : OkCs [.i .i64, .i .i64, .i .i64] e) : ∃ x : Nd, e = x.av := by
  simp only [OkCs, OkC] at h
  obtain ⟨_, _, rfl, ⟨a, rfl, _⟩, _, _, rfl, ⟨b, rfl, _⟩, _, _, rfl, ⟨c, rfl, _⟩, rfl⟩ := h
  exact ⟨⟨a, b, c⟩, rfl⟩
theorem ptOf' {e : List AV} (h : OkCs [.i .i64, .i .i64] e) : ∃ x : Pt, e = x.av := by
  simp only [OkCs, OkC] at h
  obtain ⟨_, _, rfl, ⟨a, rfl, _⟩, _, _, rfl, ⟨b, rfl, _⟩, rfl⟩ := h
  exact ⟨⟨a, b⟩, rfl⟩
theorem cellOf' {e : List AV} (h : OkCs [.i .i64] e) : ∃ x : Int, e = cell x := by
  simp only [OkCs, OkC] at h
  obtain ⟨_, _, rfl, ⟨a, rfl, _⟩, rfl⟩ := h
  exact ⟨a, rfl⟩
theorem arOf' {e : List AV} (h : OkCs [.i .i64, .i .i64, .i .i64, .sl [.i .i64, .i .i64], .i .i64, .i .i64] e) : ∃ x : Ar, e = x.av := by
  unfold OkCs OkCs OkCs OkCs OkCs OkCs OkCs at h
  obtain ⟨_, _, rfl, h1, _, _, rfl, h2, _, _, rfl, h3, v, _, rfl, hv, _, _, rfl, h4, _, _, rfl, h5, rfl⟩ := h
  simp only [OkC] at h1 h2 h3 h4 h5
  obtain ⟨a, rfl, _⟩ := h1
  obtain ⟨b, rfl, _⟩ := h2
  obtain ⟨c, rfl, _⟩ := h3
  obtain ⟨d, rfl, _⟩ := h4
  obtain ⟨e, rfl, _⟩ := h5
  obtain ⟨n, es, rfl, _, hes⟩ := slArg hv
  obtain ⟨l, rfl⟩ := mapOf (f := Pt.av) (fun e he => ptOf' (hes e he))
  exact ⟨⟨a, b, c, n, l, d, e⟩, rfl⟩
theorem ftOf' {e : List AV} (h : OkCs [.i .i64, .i .i64, .i .i64, .s, .sl [.i .i64]] e) : ∃ x : Ft, e = x.av := by
  unfold OkCs OkCs OkCs OkCs OkCs OkCs at h
  obtain ⟨_, _, rfl, h1, _, _, rfl, h2, _, _, rfl, h3, _, _, rfl, h4, v, _, rfl, hv, rfl⟩ := h
  simp only [OkC] at h1 h2 h3 h4
  obtain ⟨a, rfl, _⟩ := h1
  obtain ⟨b, rfl, _⟩ := h2
  obtain ⟨c, rfl, _⟩ := h3
  obtain ⟨d, rfl, _⟩ := h4
  obtain ⟨n, es, rfl, _, hes⟩ := slArg hv
  obtain ⟨l, rfl⟩ := mapOf (f := cell) (fun e he => cellOf' (hes e he))
  exact ⟨⟨a, b, c, d, n, l⟩, rfl⟩
theorem svOf' {e : List AV} (h : OkCs [.sl [.i .i64, .i .i64, .i .i64], .sl [.i .i64, .i .i64, .i .i64, .sl [.i .i64, .i .i64], .i .i64, .i .i64], .sl [.i .i64], .sl [.i .i64, .i .i64, .i .i64, .s, .sl [.i .i64]]] e) : ∃ s : Sv, e = s.av := by
  unfold OkCs OkCs OkCs OkCs OkCs at h
  obtain ⟨v1, _, rfl, h1, v2, _, rfl, h2, v3, _, rfl, h3, v4, _, rfl, h4, rfl⟩ := h
  obtain ⟨n1, e1, rfl, _, q1⟩ := slArg h1
  obtain ⟨n2, e2, rfl, _, q2⟩ := slArg h2
  obtain ⟨n3, e3, rfl, _, q3⟩ := slArg h3
  obtain ⟨n4, e4, rfl, _, q4⟩ := slArg h4
  obtain ⟨l1, rfl⟩ := mapOf (f := Nd.av) (fun e he => ndOf' (q1 e he))
  obtain ⟨l2, rfl⟩ := mapOf (f := Ar.av) (fun e he => arOf' (q2 e he))
  obtain ⟨l3, rfl⟩ := mapOf (f := cell) (fun e he => cellOf' (q3 e he))
  obtain ⟨l4, rfl⟩ := mapOf (f := Ft.av) (fun e he => ftOf' (q4 e he))
  exact ⟨⟨n1, l1, n2, l2, n3, l3, n4, l4⟩, rfl⟩
theorem findsArgs (avs : List AV) (h : OkArgs [(true, [.sl [.i .i64, .i .i64, .i .i64], .sl [.i .i64, .i .i64, .i .i64, .sl [.i .i64, .i .i64], .i .i64, .i .i64], .sl [.i .i64], .sl [.i .i64, .i .i64, .i .i64, .s, .sl [.i .i64]]]), (false, [.i .i64]), (false, [.i .i64])] avs) : (om prim1 F).p 9 avs = some (.bool true) := by
  simp only [OkArgs, Bool.false_eq_true, if_false, if_true] at h
  obtain ⟨v, r, cs, rfl, rfl, hok, v2, r2, cs2, rfl, hw2, hok2, v3, r3, cs3, rfl, hw3, hok3, rfl⟩ := h
  simp only [OkCs, OkC] at hok2 hok3
  obtain ⟨_, _, rfl, ⟨k, rfl, _⟩, rfl⟩ := hok2
  obtain ⟨_, _, rfl, ⟨c, rfl, _⟩, rfl⟩ := hok3
  simp only [List.cons.injEq, and_true] at hw2 hw3
  subst hw2 hw3
  obtain ⟨s, rfl⟩ := svOf' hok
  exact findsMain s k c
end Go.Ab
